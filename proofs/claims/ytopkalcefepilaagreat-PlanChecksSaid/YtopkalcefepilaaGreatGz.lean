/- Walks that follow mirrors: Gz. Printed by mx.py. -/
import Derived.Test.YtopkalcefepilaaGreatGy
import Derived.Test.YtopkalcefepilaaGreatZd
set_option linter.unusedVariables false
set_option linter.unusedSimpArgs false
set_option maxRecDepth 100000
set_option maxHeartbeats 2000000
namespace Go.Proofs.YtopkalcefepilaaGreat.Mx
open Go Go.RowKit Go.Sx
theorem Qqd:En Tryz.prog 86:=fun _ _=>by kernel_rfl
theorem Cw:En Tryz.prog 138:=fun _ _=>by kernel_rfl
theorem Qpa:En Tryz.prog 139:=fun _ _=>by kernel_rfl
theorem Qof:Wt Tryz.prog 101 0 137 2 []:=Qh8 Tryz.underlying101 (Wn).siz
theorem Qe3:En Tryz.prog 141:=fun _ _=>by kernel_rfl
theorem Qqe:En Tryz.prog 87:=fun _ _=>by kernel_rfl
theorem Qpo:En Tryz.prog 19:=fun _ _=>by kernel_rfl
theorem Qpr:En Tryz.prog 20:=fun _ _=>by kernel_rfl
theorem Qpx:En Tryz.prog 44:=fun _ _=>by kernel_rfl
theorem Qik:En Tryz.prog 22:=fun _ _=>by kernel_rfl
theorem Quh {p0 p1 vp1 zp1 gp1 op1 r}(hm:Iz p0 p1=some r){w:World}(g:Rd w zp1 gp1 op1 1 vp1 (p1.map ic)):
 Calls Tryz.prog 86 [.int .i64 p0,vp1].toArray w fun e w'=>∃ v,e=.returned v∧(v=.bool r∧Gr w w'):=by
 have t:=g.lth
 unfold Iz at hm
 refine Xj 42 Tryz.func86 rfl rfl rfl<|qs 1 rfl<|qm rfl<|Qa<|Qh<|Qh ?_
 refine qg 1 rfl<|qm rfl<|Qa<|Xc<|Zv (α:=Nat × Int) (rg 4 38) (fun⟨n1,a2⟩=>[(4,.bool false),(5,.int .i64 a2)]) (fun⟨n1,a2⟩ wr=>(Qs (Ba p0 p1) n1 a2=some r)∧Kz [] w wr) (fun⟨n1,a2⟩=>n1) ⟨Qy,0⟩ ?_ ?_ ?_
 · exact Qi
 · exact⟨hm,Kz.refl _ _⟩
 clear hm;rintro⟨n1,a2⟩ w1 ⟨hm,K1⟩
 have z2:=K1.size
 have hb:=Zu hm;clear hm;obtain⟨n1,rfl,hm⟩:=hb
 generalize f:Qs (Ba p0 p1) n1=h at hm
 unfold Ba at hm
 try dsimp only at hm
 refine Qh<|qs 4 rfl<|qn 2 rfl ?_
 have B3:=(g.kz K1)
 refine qv rfl (Vm (l:=p1) (c:=ic) Tryz.underlying30 rfl B3)<|qv rfl (Zo (a:=a2) (b:=(p1.length:Int)) rfl rfl)<|Qa<|Zy hm rfl (fun c1 hm=>?_) (fun c1 hm=>?_)
 · refine Zd<|Xh<|Xh<|Zc<|Xa<|qs 1 rfl ?_
   refine qm rfl<|Qa<|Qp ?_
   have p:=((Gr.refl w).kz K1)
   cases hm
   exact⟨_,_,rfl,Qr rfl (Ql rfl),rfl,p⟩
 refine qu<|Qh<|Xc ?_
 have X4:=((Gr.refl w).kz K1)
 refine qj (β:=Bool) (rg 12 30) (fun a3=>[(41,.bool a3)]) (fun a3 wr=>(Rz a2 h a3=some r)∧Kz [] w1 wr) ?_ ?_
 · refine dw [([])] [] (.leaf [(0,10),(1,10),(2,10),(3,10),(4,10),(5,10),(6,10),(7,10),(8,10),(9,10),(10,10),(11,0),(12,10),(13,10),(14,10),(15,10),(16,10),(17,10),(18,10),(19,10),(20,10),(21,10),(22,10),(23,10),(24,10),(25,10),(26,10),(27,10),(28,10),(29,10)]) ?_
   intro w3 G3 x
   refine Jp<|dm 0 rfl rfl<|dm 0 rfl rfl ?_
   obtain⟨y4,j,hm⟩:=Qc hm
   have B8:=(B3.gr G3)
   refine dh 0 rfl rfl (fun w hS=>Jl (i:=a2) Tryz.underlying30 (Qe).siz rfl (Rd.kp B8 hS) rfl j)<|dh 0 rfl rfl (fun w hS=>Zt (q:=0) (u:=.int .i64 y4) Qe rfl (Rd.kp B8 hS) j (by first|rfl|omega) rfl)<|dh 0 rfl rfl (fun w hS=>Zo (a:=y4) (b:=0) rfl rfl)<|Ni hm 0 rfl rfl (Kp.refl ([]) w3) (fun w hS=>Qt rfl) (fun c3 hm=>?_) (fun c3 hm=>?_)
   · refine dx 0 rfl rfl<|dx 0 rfl rfl<|dx 0 rfl rfl<|dx 0 rfl rfl<|dx 0 rfl rfl<|qy rfl<|dx 0 rfl rfl ?_
     refine dm 0 rfl rfl<|dm 0 rfl rfl<|dx 0 rfl rfl<|dx 0 rfl rfl<|dx 0 rfl rfl<|dx 0 rfl rfl<|dx 0 rfl rfl ?_
     refine dx 0 rfl rfl<|dx 0 rfl rfl<|dx 0 rfl rfl<|dx 0 rfl rfl<|dx 0 rfl rfl<|dx 0 rfl rfl<|dx 0 rfl rfl ?_
     refine dx 0 rfl rfl<|dx 0 rfl rfl<|dm 0 rfl rfl<|Qj ?_
     exact⟨rfl,true,Qi,hm,(Qw.gr G3)⟩
   refine dm 0 rfl rfl<|dm 0 rfl rfl ?_
   obtain⟨y5,m,hm⟩:=Qc hm
   refine dh 0 rfl rfl (fun w hS=>Jl (i:=a2) Tryz.underlying30 (Qe).siz rfl (Rd.kp B8 hS) rfl m)<|dh 0 rfl rfl (fun w hS=>Zt (q:=0) (u:=.int .i64 y5) Qe rfl (Rd.kp B8 hS) m (by first|rfl|omega) rfl)<|dm 0 rfl rfl ?_
   obtain⟨x6,s,hm⟩:=Qc hm
   refine qz [] rfl (eC Dq rfl (Dz s)) ⟨fun _=>Qn,trivial⟩ ?_
   rintro _ w4 ⟨rfl,G4⟩
   have y:=G4.size
   refine kG G4 ?_
   have d:=((Kp.refl ([]) w3).gr G4)
   refine qh 0 rfl rfl d (fun w hS=>Yq (a:=y5) (b:=x6) rfl rfl)<|dn 0 rfl rfl d<|Ni hm 0 rfl rfl d (fun w hS=>Qt rfl) (fun c4 hm=>?_) (fun c4 hm=>?_)
   · refine qx 0 rfl rfl d<|qx 0 rfl rfl d<|qx 0 rfl rfl d<|qx 0 rfl rfl d<|qx 0 rfl rfl d<|qx 0 rfl rfl d<|qx 0 rfl rfl d ?_
     refine qx 0 rfl rfl d<|qx 0 rfl rfl d<|qx 0 rfl rfl d<|qx 0 rfl rfl d<|qx 0 rfl rfl d<|qx 0 rfl rfl d<|qx 0 rfl rfl d ?_
     refine dn 0 rfl rfl d<|Qj ?_
     exact⟨rfl,true,Qi,hm,((Qw.gr G3).gr G4)⟩
   refine dn 0 rfl rfl d<|qh 0 rfl rfl d (fun w hS=>Ky (a:=a2) (b:=0) rfl rfl)<|Nh hm 0 rfl rfl d (fun w hS=>Qt rfl) (fun c5 hm=>?_) (fun c5 hm=>?_)
   · refine qx 0 rfl rfl d<|qx 0 rfl rfl d<|qx 0 rfl rfl d<|qx 0 rfl rfl d<|qx 0 rfl rfl d<|qx 0 rfl rfl d<|qx 0 rfl rfl d ?_
     refine qx 0 rfl rfl d<|qx 0 rfl rfl d<|qx 0 rfl rfl d<|dn 0 rfl rfl d<|dn 0 rfl rfl d<|Qj ?_
     exact⟨rfl,false,Qi,hm,((Qw.gr G3).gr G4)⟩
   refine dn 0 rfl rfl d<|dn 0 rfl rfl d ?_
   obtain⟨y7,n,hm⟩:=Qc hm
   refine qh 0 rfl rfl d (fun w hS=>Jl (i:=a2) Tryz.underlying30 (Qe).siz rfl (Rd.kp B8 hS) rfl n)<|qh 0 rfl rfl d (fun w hS=>Zt (q:=0) (u:=.int .i64 y7) Qe rfl (Rd.kp B8 hS) n (by first|rfl|omega) rfl)<|dn 0 rfl rfl d<|dn 0 rfl rfl d<|qh 0 rfl rfl d (fun w hS=>Js (k:=.i64) (a:=a2) (b:=1) rfl rfl) ?_
   obtain⟨y8,o,hm⟩:=Qc hm
   refine qh 0 rfl rfl d (fun w hS=>Jl (i:=Qb (a2-1)) Tryz.underlying30 (Qe).siz rfl (Rd.kp B8 hS) rfl o)<|qh 0 rfl rfl d (fun w hS=>Zt (q:=0) (u:=.int .i64 y8) Qe rfl (Rd.kp B8 hS) o (by first|rfl|omega) rfl)<|qh 0 rfl rfl d (fun w hS=>Yr (a:=y7) (b:=y8) rfl rfl)<|dn 0 rfl rfl d<|dn 0 rfl rfl d<|Qj ?_
   exact⟨rfl,(decide (y7≤y8)),Qi,hm,((Qw.gr G3).gr G4)⟩
 clear hm;rintro a3 w2 ⟨hm,K2⟩
 have z5:=K2.size
 unfold Rz at hm
 refine Zh hm rfl (fun c2 hm=>?_) (fun c2 hm=>?_)
 · refine qs 1 rfl<|qm rfl<|Qa<|Qp<|Zk<|Xp ?_
   refine Xp<|Zk<|Xp ?_
   have X6:=(X4.kz K2)
   cases hm
   exact⟨_,_,rfl,Qr rfl (Ql rfl),rfl,X6⟩
 refine Jb<|Xi<|Xa<|qg 3 rfl<|qm rfl<|qv rfl (Xn (k:=.i64) (a:=a2) (b:=1) rfl rfl)<|qm rfl ?_
 refine Qj ?_
 have K_7:Kz [] w w2:=(K1.kz K2)
 subst f
 exact⟨rfl,⟨n1,Qb (a2+1)⟩,Qi,⟨hm,K_7⟩,Nat.lt_succ_self _⟩
theorem Ui {p0 p1 p2 vp1 zp1 gp1 op1 r}(hm:Tv p0 p1 p2=some r){w:World}(f:Rd w zp1 gp1 op1 1 vp1 (p1.map ic)):
 Calls Tryz.prog 138 [.int .i64 p0,vp1,.int .i64 p2].toArray w fun e w'=>∃ v,e=.returned v∧(v=.bool r∧Gr w w'):=by
 have o:=f.lth
 unfold Tv at hm
 refine Xj 23 Tryz.func138 rfl rfl rfl<|qs 1 rfl<|qm rfl<|Qa<|Qh<|Qh ?_
 refine qg 1 rfl<|qm rfl<|Qa<|Xc<|Zv (α:=Nat × Int) (rg 6 17) (fun⟨n1,a2⟩=>[(6,.bool false),(7,.int .i64 a2)]) (fun⟨n1,a2⟩ wr=>(Qs (Bf p0 p1 p2) n1 a2=some r)∧Kz [] w wr) (fun⟨n1,a2⟩=>n1) ⟨Qy,0⟩ ?_ ?_ ?_
 · exact Qi
 · exact⟨hm,Kz.refl _ _⟩
 clear hm;rintro⟨n1,a2⟩ w1 ⟨hm,K1⟩
 have z2:=K1.size
 have hb:=Zu hm;clear hm;obtain⟨n1,rfl,hm⟩:=hb
 generalize d:Qs (Bf p0 p1 p2) n1=n at hm
 unfold Bf at hm
 try dsimp only at hm
 refine Qh<|qs 4 rfl<|qn 2 rfl ?_
 have B3:=(f.kz K1)
 refine qv rfl (Vm (l:=p1) (c:=ic) Tryz.underlying30 rfl B3)<|qv rfl (Zo (a:=a2) (b:=(p1.length:Int)) rfl rfl)<|Qa<|Zy hm rfl (fun c1 hm=>?_) (fun c1 hm=>?_)
 · refine Zd<|Xh<|Xh<|Zc<|Xa<|qs 1 rfl ?_
   refine qm rfl<|Qa<|Qp ?_
   have h:=((Gr.refl w).kz K1)
   cases hm
   exact⟨_,_,rfl,Qr rfl (Ql rfl),rfl,h⟩
 refine qu<|Qh<|Xc<|Qh<|dw [([])] [] (.leaf [(0,10),(2,10),(3,10),(4,10),(5,10),(7,10),(1,0),(6,10),(8,0)]) ?_
 intro w2 G2 p
 refine Jp<|dm 0 rfl rfl<|dm 0 rfl rfl<|dm 0 rfl rfl ?_
 obtain⟨y3,g,hm⟩:=Qc hm
 have B4:=(B3.gr G2)
 refine dh 0 rfl rfl (fun w hS=>Jl (i:=a2) Tryz.underlying30 (Qe).siz rfl (Rd.kp B4 hS) rfl g)<|dh 0 rfl rfl (fun w hS=>Zt (q:=0) (u:=.int .i64 y3) Qe rfl (Rd.kp B4 hS) g (by first|rfl|omega) rfl)<|dm 0 rfl rfl ?_
 obtain⟨x4,j,hm⟩:=Qc hm
 refine qz [] rfl (eC Dq rfl (Dz j)) ⟨fun _=>Qn,trivial⟩ ?_
 rintro _ w3 ⟨rfl,G3⟩
 have z5:=G3.size
 refine kG G3 ?_
 have S6:=((Kp.refl ([]) w2).gr G3)
 refine qh 0 rfl rfl S6 (fun w hS=>Xn (k:=.i64) (a:=x4) (b:=y3) rfl rfl) ?_
 obtain⟨x5,m,hm⟩:=Qc hm
 refine qz [] rfl (eC Qif rfl (Ql4 m)) ⟨fun _=>Qn,trivial⟩ ?_
 rintro _ w4 ⟨rfl,G4⟩
 have z7:=G4.size
 refine kG G4<|Qa<|Zh hm rfl (fun c2 hm=>?_) (fun c2 hm=>?_)
 · refine qs 1 rfl<|qm rfl<|Qa<|Qp<|Zk<|Xp ?_
   refine Xp<|Zk<|Xp ?_
   have X8:=(((((Gr.refl w).kz K1).trans G2).trans G3).trans G4)
   cases hm
   exact⟨_,_,rfl,Qr rfl (Ql rfl),rfl,X8⟩
 refine Jb<|Xi<|Xa<|qg 3 rfl<|qm rfl<|qv rfl (Xn (k:=.i64) (a:=a2) (b:=1) rfl rfl)<|qm rfl ?_
 refine Qj ?_
 have K_9:Kz [] w w4:=(((K1.gr G2).gr G3).gr G4)
 subst d
 exact⟨rfl,⟨n1,Qb (a2+1)⟩,Qi,⟨hm,K_9⟩,Nat.lt_succ_self _⟩
theorem Qul {p0 p1 p2 vp1 zp1 gp1 op1 r}(hm:Oc p0 p1 p2=some r){w:World}(d:Rd w zp1 gp1 op1 1 vp1 (p1.map ic)):
 Calls Tryz.prog 139 [.int .i64 p0,vp1,.int .i64 p2].toArray w fun e w'=>∃ v,e=.returned v∧(v=.int .i64 r∧Gr w w'):=by
 have n:=d.lth
 unfold Oc at hm
 refine Xj 36 Tryz.func139 rfl rfl rfl<|qs 1 rfl<|qm rfl<|Qa<|Qh<|Xc ?_
 refine Zv (α:=Nat × Int) ([2]++rg 7 28) (fun⟨n1,a2⟩=>[(2,.int .i64 a2)]) (fun⟨n1,a2⟩ wr=>(Qs (Uh p0 p1) n1 a2=some r)∧Kz [] w wr) (fun⟨n1,a2⟩=>n1) ⟨Qy,p2⟩ ?_ ?_ ?_
 · exact Qi
 · exact⟨hm,Kz.refl _ _⟩
 clear hm;rintro⟨n1,a2⟩ w1 ⟨hm,K1⟩
 have z2:=K1.size
 have hb:=Zu hm;clear hm;obtain⟨n1,rfl,hm⟩:=hb
 generalize c:Qs (Uh p0 p1) n1=f at hm
 unfold Uh at hm
 try dsimp only at hm
 refine Qh ?_
 have X3:=((Gr.refl w).kz K1)
 refine qj (β:=Bool) (rg 7 18) (fun a3=>[(24,.bool a3)]) (fun a3 wr=>(Od p0 p1 a2 f a3=some r)∧Kz [] w1 wr) ?_ ?_
 · refine qg 18 rfl<|qn 2 rfl ?_
   obtain⟨x5,h,hm⟩:=Qc hm
   refine qe rfl (eC Dq rfl (Dz h)) ?_
   rintro _ w4 ⟨rfl,G4⟩
   have o:=G4.size
   refine qv rfl (Zo (a:=a2) (b:=x5) rfl rfl)<|Jo hm rfl (Qt rfl) (fun c3 hm=>?_) (fun c3 hm=>?_)
   · refine qn 7 rfl ?_
     refine qn 6 rfl<|Qj ?_
     exact⟨rfl,false,Qi,hm,(Qw.gr G4)⟩
   refine qn 3 rfl<|qv rfl (Kb (k:=.i64) (a:=2) (b:=a2) rfl rfl) ?_
   have g:=((d.kz K1).gr G4)
   obtain⟨x6,i,hm⟩:=Qc hm
   refine qe rfl (eC Cw rfl (Ui i g)) ?_
   rintro _ w5 ⟨rfl,G5⟩
   have p:=G5.size
   refine qn 3 rfl<|qv rfl (Kb (k:=.i64) (a:=2) (b:=a2) rfl rfl)<|qv rfl (Xn (k:=.i64) (a:=Qb (2*a2)) (b:=1) rfl rfl) ?_
   have j:=(g.gr G5)
   obtain⟨x7,l,hm⟩:=Qc hm
   refine qe rfl (eC Cw rfl (Ui l j)) ?_
   rintro _ w6 ⟨rfl,G6⟩
   have q:=G6.size
   refine qv rfl (Qni Tryz.underlying4 rfl rfl)<|qm rfl<|Qj ?_
   exact⟨rfl,(x6 != x7),Qi,hm,(((Qw.gr G4).gr G5).gr G6)⟩
 clear hm;rintro a3 w2 ⟨hm,K2⟩
 have z4:=K2.size
 unfold Od at hm
 refine Wz hm rfl (fun c1 hm=>?_) (fun c1 hm=>?_)
 · refine Zd<|Xh<|Xh<|Zc<|Xa<|qs 2 rfl ?_
   refine qn 2 rfl<|Qa<|Qp ?_
   have X9:=(X3.kz K2)
   cases hm
   exact⟨_,_,rfl,Qr rfl (Ql rfl),rfl,X9⟩
 refine qu<|Xc<|qs 5 rfl<|qn 2 rfl ?_
 refine qm rfl<|qv rfl (Kb (k:=.i64) (a:=2) (b:=a2) rfl rfl) ?_
 have B5:=((d.kz K1).kz K2)
 obtain⟨x4,m,hm⟩:=Qc hm
 refine qe rfl (eC Cw rfl (Ui m B5)) ?_
 rintro _ w3 ⟨rfl,G3⟩
 have z6:=G3.size
 refine Qa<|Zh hm rfl (fun c2 hm=>?_) (fun c2 hm=>?_)
 · refine qg 3 rfl<|qm rfl<|qv rfl (Kb (k:=.i64) (a:=2) (b:=a2) rfl rfl)<|qm rfl<|Qj<|Xi ?_
   have K_7:Kz [] w w3:=((K1.kz K2).gr G3)
   subst c
   exact⟨rfl,⟨n1,Qb (2*a2)⟩,Qi,⟨hm,K_7⟩,Nat.lt_succ_self _⟩
 refine qg 4 rfl<|qm rfl<|qv rfl (Kb (k:=.i64) (a:=2) (b:=a2) rfl rfl)<|qv rfl (Xn (k:=.i64) (a:=Qb (2*a2)) (b:=1) rfl rfl)<|qm rfl<|Qj<|Xi ?_
 have K_8:Kz [] w w3:=((K1.kz K2).gr G3)
 subst c
 exact⟨rfl,⟨n1,Qb ((Qb (2*a2))+1)⟩,Qi,⟨hm,K_8⟩,Nat.lt_succ_self _⟩
theorem Qfv {p0 p1 vp0 zp0 gp0 op0 r}(hm:Nn p0 p1=some r){w:World}(t:Rd w zp0 gp0 op0 2 vp0 (p0.map Qm.cs)):
 Calls Tryz.prog 141 [vp0,.agg (Qm.cs p1).toArray].toArray w fun e w'=>∃ v,e=.returned v∧(∃ ur0_s zr0_s gr0_s,v=ur0_s∧Qk w' zr0_s gr0_s 137 2 ur0_s (r.map Qm.cs)∧Xb (zr0_s=0∨w.heap.size≤gr0_s)∧Gr w w'):=by
 have g:=t.lth
 unfold Nn at hm
 refine Xj 37 Tryz.func141 rfl rfl rfl<|qs 2 rfl<|qe rfl (Xq (cs:=Qm.cs p1) rfl rfl) ?_
 rintro _ w1 ⟨b1,rfl,ac,h,G1⟩
 have z2:=G1.size
 have aj:=h.lt
 refine qm rfl<|qd 1 rfl<|qm rfl<|Qa<|Qh ?_
 refine Xc ?_
 have X4:=((Gr.refl w).trans G1)
 have B5:=(t.gr G1)
 refine Zv (α:=Nat × Int) ([5]++rg 7 16) (fun⟨n1,a2⟩=>[(5,.int .i64 a2)]) (fun⟨n1,a2⟩ wr=>(Qs (Bg p0 p1) n1 a2=some r)∧Kz [] w1 wr) (fun⟨n1,a2⟩=>n1) ⟨Qy,0⟩ ?_ ?_ ?_
 · exact Qi
 · exact⟨hm,Kz.refl _ _⟩
 clear hm;rintro⟨n1,a2⟩ w2 ⟨hm,K2⟩
 have z6:=K2.size
 have hb:=Zu hm;clear hm;obtain⟨n1,rfl,hm⟩:=hb
 generalize j:Qs (Bg p0 p1) n1=y at hm
 unfold Bg at hm
 try dsimp only at hm
 refine Qh ?_
 have X7:=(X4.kz K2)
 refine qj (β:=Bool) (rg 7 14) (fun a3=>[(20,.bool a3)]) (fun a3 wr=>(Uj p0 p1 a2 y a3=some r)∧Kz [] w2 wr) ?_ ?_
 · refine dw [([])] [] (.leaf [(0,10),(1,10),(2,10),(3,10),(4,10),(5,10),(6,10),(7,10),(8,10),(9,10),(10,10),(11,10),(12,10),(13,10)]) ?_
   intro w9 G9 ak
   refine Jp<|dm 0 rfl rfl<|dm 0 rfl rfl ?_
   have n:=((B5.kz K2).gr G9)
   refine dh 0 rfl rfl (fun w hS=>Vm (l:=p0) (c:=Qm.cs) Tryz.underlying101 rfl (Rd.kp n hS))<|dh 0 rfl rfl (fun w hS=>Zo (a:=a2) (b:=(p0.length:Int)) rfl rfl)<|Nh hm 0 rfl rfl (Kp.refl ([]) w9) (fun w hS=>Qt rfl) (fun c2 hm=>?_) (fun c2 hm=>?_)
   · refine dx 0 rfl rfl<|dx 0 rfl rfl<|dx 0 rfl rfl<|dx 0 rfl rfl<|dx 0 rfl rfl<|dx 0 rfl rfl<|dx 0 rfl rfl ?_
     refine dx 0 rfl rfl<|dm 0 rfl rfl<|Qj ?_
     exact⟨rfl,false,Qi,hm,(Qw.gr G9)⟩
   refine dm 0 rfl rfl<|dm 0 rfl rfl ?_
   obtain⟨y9,z,hm⟩:=Qc hm
   refine dh 0 rfl rfl (fun w hS=>Jl (i:=a2) Tryz.underlying101 (Wn).siz rfl (Rd.kp n hS) rfl z)<|dh 0 rfl rfl (fun w hS=>Qg Tg rfl)<|dh 0 rfl rfl (fun w hS=>Zt (q:=0) (u:=.int .i64 y9.Node) Qe rfl (Rd.kp n hS) z (by first|rfl|omega) rfl)<|dh 0 rfl rfl (fun w hS=>Qg Tg rfl) ?_
   have I:=((h.kz K2).gr G9)
   refine dh 0 rfl rfl (fun w hS=>Qf (v:=.int .i64 p1.Node) Qe rfl (Bx.kp I hS) rfl)<|dh 0 rfl rfl (fun w hS=>Zo (a:=y9.Node) (b:=p1.Node) rfl rfl)<|dm 0 rfl rfl<|Qj ?_
   exact⟨rfl,(decide (y9.Node<p1.Node)),Qi,hm,(Qw.gr G9)⟩
 clear hm;rintro a3 w3 ⟨hm,K3⟩
 have z8:=K3.size
 unfold Uj at hm
 refine Zh hm rfl (fun c1 hm=>?_) (fun c1 hm=>?_)
 · refine qu<|Xc<|qg 3 rfl<|qm rfl<|qv rfl (Xn (k:=.i64) (a:=a2) (b:=1) rfl rfl)<|qm rfl ?_
   refine Qj<|Xi ?_
   have K_9:Kz [] w1 w3:=(K2.kz K3)
   subst j
   exact⟨rfl,⟨n1,Qb (a2+1)⟩,Qi,⟨hm,K_9⟩,Nat.lt_succ_self _⟩
 refine Zd<|Xh<|Xh<|Zc<|Xa<|qs 6 rfl ?_
 refine qe rfl (Kt ([]:List Qm) Qm.cs Qof rfl rfl (Vj rfl) rfl rfl rfl) ?_
 rintro al w4 ⟨p,ad,B,G4⟩
 have am:=G4.size
 have ae:=B.lth
 refine qn 2 rfl ?_
 obtain⟨l4,J,hm⟩:=Qc hm
 have C:=(((B5.kz K2).kz K3).gr G4)
 refine qt rfl (Qnk (P:=Tryz.prog) (lo:=0) (hi:=a2) (l:=p0) (c:=Qm.cs) Tryz.underlying101 (Wn).siz rfl C rfl ⟨_,rfl⟩ J) ?_
 rintro an ao D
 have af:=D.lth
 obtain⟨l5,K,hm⟩:=Qc hm
 refine qe rfl (Ha (l:=([]:List Qm)) (m:=l4) (c:=Qm.cs) Nw rfl rfl B D K (by decide)) ?_
 rintro ap w5 ⟨L,M,N,d,aq,f⟩
 have ar:=d.size
 refine qm rfl<|qd 5 rfl<|qm rfl ?_
 have O:=((((h.kz K2).kz K3).gr G4).ka d (Qd ((.inr Qn):1=0∨p≠b1)))
 refine qv rfl (Xm Wn rfl O rfl)<|qe rfl (Kt [p1] Qm.cs Nz rfl rfl (Vj rfl) rfl rfl rfl) ?_
 rintro au w6 ⟨av,ag,E,G6⟩
 have aw:=G6.size
 have ah:=E.lth
 have Q:=(N.gr G6)
 obtain⟨l6,R,hm⟩:=Qc hm
 refine qe rfl (Ha (l:=l5) (m:=[p1]) (c:=Qm.cs) Nw rfl rfl Q (Qk.rd E) R (by decide)) ?_
 rintro ax w7 ⟨ay,az,S,s,aA,F⟩
 have aB:=s.size
 refine qm rfl<|qd 6 rfl<|qn 3 rfl ?_
 obtain⟨l7,T,hm⟩:=Qc hm
 have U:=(((C.ka d (Qd ((Ki (.inr (Qd g.o))):zp0=0∨1=0∨gp0≠p))).gr G6).ka s (Qd ((Ki (Kc (A:=(fun x=>zp0=0∨x≠gp0)) f (.inr (Qd g.o)) (fun x hx=>(Qd g.o)))):zp0=0∨L=0∨gp0≠M)))
 refine qt rfl (Qnk (P:=Tryz.prog) (lo:=a2) (hi:=(p0.length:Int)) (l:=p0) (c:=Qm.cs) Tryz.underlying101 (Wn).siz rfl U ⟨_,rfl⟩ rfl T) ?_
 rintro aC aD G
 have ai:=G.lth
 obtain⟨l8,V,hm⟩:=Qc hm
 refine qe rfl (Ha (l:=l6) (m:=l7) (c:=Qm.cs) Nw rfl rfl S G V (by decide)) ?_
 rintro W w8 ⟨X,Y,Z,H,aE,aa⟩
 have aF:=H.size
 refine qm rfl<|Qa<|Qp ?_
 have ab:=((((((X7.kz K3).trans G4).ka d (Qd ((.inr Qn):1=0∨w.heap.size≤p))).trans G6).ka s (Qd (Kc (A:=(fun x=>w.heap.size≤x)) f (.inr Qn)))).ka H (Qd (Kc (A:=(fun x=>w.heap.size≤x)) F (Kc (A:=(fun x=>w.heap.size≤x)) f (.inr Qn)))))
 cases hm
 exact⟨_,_,rfl,Qr rfl (Ql rfl),W,X,Y,rfl,Z,⟨(Kc (A:=(fun x=>w.heap.size≤x)) aa (Kc (A:=(fun x=>w.heap.size≤x)) F (Kc (A:=(fun x=>w.heap.size≤x)) f (.inr Qn))))⟩,ab⟩
theorem Quf {p0 p1 vp1 zp1 gp1 op1 r}(hm:Qcf p0 p1=some r){w:World}(O:Rd w zp1 gp1 op1 1 vp1 (p1.map ic)):
 Calls Tryz.prog 87 [.agg (Qo.cs p0).toArray,vp1].toArray w fun e w'=>∃ v,e=.returned v∧(∃ ur0_s zr0_s gr0_s,v=ur0_s∧Qk w' zr0_s gr0_s 137 2 ur0_s (r.map Qm.cs)∧Xb (zr0_s=0∨w.heap.size≤gr0_s)∧Gr w w'):=by
 have bi:=O.lth
 unfold Qcf at hm
 refine Xj 104 Tryz.func87 rfl rfl rfl<|qs 2 rfl<|qe rfl (Xq (cs:=Qo.cs p0) rfl rfl) ?_
 rintro _ w1 ⟨b1,rfl,ba,P,G1⟩
 have z2:=G1.size
 have bj:=P.lt
 refine qm rfl<|qd 1 rfl<|qm rfl<|Qa<|Qh ?_
 have X4:=((Gr.refl w).trans G1)
 refine qj (β:=Bool) (rg 11 8) (fun a1=>[(18,.bool a1)]) (fun a1 wr=>(Iy p0 p1 a1=some r)∧Kz [] w1 wr) ?_ ?_
 · refine qg 8 rfl<|qv rfl (Qg Kj rfl)<|qv rfl (Qf (v:=bv p0.Kind) Zb rfl P rfl)<|qv rfl (Bp (p:=p0.Kind) (q:=1#8) rfl rfl)<|Jo hm rfl (Qt rfl) (fun aw hm=>?_) (fun aw hm=>?_)
   · refine qn 4 rfl<|Qj ?_
     exact⟨rfl,false,Qi,hm,Qw⟩
   refine qm rfl ?_
   have ax:=(O.gr G1)
   refine qv rfl (Vm (l:=p1) (c:=ic) Tryz.underlying30 rfl ax)<|qv rfl (Xv (a:=(p1.length:Int)) (b:=0) rfl rfl)<|qm rfl<|Qj ?_
   exact⟨rfl,(decide ((p1.length:Int)=0)),Qi,hm,Qw⟩
 clear hm;rintro a1 w2 ⟨hm,K2⟩
 have z5:=K2.size
 unfold Iy at hm
 refine Zh hm rfl (fun c1 hm=>?_) (fun c1 hm=>?_)
 · refine qs 3 rfl<|qv rfl (Kl (cs:=Qm.cs (Qm.mk 1 0)) Dn rfl rfl)<|qe rfl (Kt [(Qm.mk 1 0)] Qm.cs Nz rfl rfl (Vj rfl) rfl rfl rfl) ?_
   rintro ay w3 ⟨az,bb,W,G3⟩
   have z6:=G3.size
   have bk:=W.lth
   refine qm rfl<|qb ?_
   have X8:=((X4.kz K2).trans G3)
   cases hm
   exact⟨_,_,rfl,Qr rfl (Ql rfl),ay,1,az,rfl,W,⟨(.inr Qn)⟩,X8⟩
 refine qu<|Qh<|qs 1 rfl<|qm rfl<|Qa ?_
 refine Xc ?_
 have X9:=(X4.kz K2)
 have aA:=((O.gr G1).kz K2)
 refine Zv (α:=Nat × List Qm × Int × Value × Nat × Nat) (rg 5 6++rg 21 82) (fun⟨n2,a5,a7,vy6,zy6,gy6⟩=>[(5,vy6),(6,.int .i64 a7)]) (fun⟨n2,a5,a7,vy6,zy6,gy6⟩ wr=>(Qs (Dh p0 p1) n2 (a5,a7)=some r)∧Qk wr zy6 gy6 137 2 vy6 (a5.map Qm.cs)∧Xb (zy6=0∨w2.heap.size≤gy6)∧Kz [] w2 wr) (fun⟨n2,a5,a7,vy6,zy6,gy6⟩=>n2) ⟨Qy,[],1,(.slice none 0 0),0,0⟩ ?_ ?_ ?_
 · exact Qi
 · exact⟨hm,(Kx _ 0 137 2),⟨(.inl rfl)⟩,Kz.refl _ _⟩
 clear hm;rintro⟨n2,a5,a7,vy6,zy6,gy6⟩ w4 ⟨hm,d,f,K4⟩
 have bm:=K4.size
 have K:=d.lth
 have hb:=Zu hm;clear hm;obtain⟨n2,rfl,hm⟩:=hb
 generalize g:Qs (Dh p0 p1) n2=L at hm
 unfold Dh at hm
 try dsimp only at hm
 refine Qh<|qs 6 rfl<|qm rfl<|qv rfl (Qg Ji rfl) ?_
 have X:=((P.kz K2).kz K4)
 refine qv rfl (Qf (v:=.int .i64 p0.Depth) Qe rfl X rfl) ?_
 obtain⟨x8,aB,hm⟩:=Qc hm
 refine qe rfl (eC Dq rfl (Dz aB)) ?_
 rintro _ w5 ⟨rfl,G5⟩
 have bo:=G5.size
 refine qv rfl (Kb (k:=.i64) (a:=2) (b:=x8) rfl rfl)<|qv rfl (Zo (a:=a7) (b:=Qb (2*x8)) rfl rfl)<|Qa<|Zy hm rfl (fun c2 hm=>?_) (fun c2 hm=>?_)
 · refine Zd<|Xh<|Xh<|Zc<|Xa<|qs 2 rfl ?_
   refine qn 2 rfl<|Qa<|Qp ?_
   have aC:=(d.gr G5)
   have aD:=((X9.kz K4).trans G5)
   cases hm
   exact⟨_,_,rfl,Qr rfl (Ql rfl),vy6,zy6,gy6,rfl,aC,⟨(Xe (A:=(fun x=>w.heap.size≤x)) f)⟩,aD⟩
 refine qu<|Qh<|Xc<|qs 6 rfl<|qv rfl (Qg Ji rfl) ?_
 have Y:=(X.gr G5)
 refine qv rfl (Qf (v:=.int .i64 p0.Depth) Qe rfl Y rfl)<|qn 2 rfl ?_
 have F:=((aA.kz K4).gr G5)
 obtain⟨x9,aE,hm⟩:=Qc hm
 refine qe rfl (eC Cw rfl (Ui aE F)) ?_
 rintro _ w6 ⟨rfl,G6⟩
 have bp:=G6.size
 refine qm rfl<|Qa<|Qh<|qs 3 rfl<|qv rfl (Qg Kj rfl) ?_
 have G:=(Y.gr G6)
 refine qv rfl (Qf (v:=bv p0.Kind) Zb rfl G rfl)<|qv rfl (Jz (p:=p0.Kind) (q:=1#8) rfl rfl)<|Qa<|Zq hm rfl (fun c3 hm=>?_) (fun c3 hm=>?_)
 · refine Qh ?_
   have Y1:=Gr.trans G5 G6
   have bq:=((X9.kz K4).trans Y1)
   refine qj (β:=Bool) (rg 37 14) (fun H=>[(50,.bool H)]) (fun H wr=>(Nk a5 a7 L H=some r)∧Kz [] w6 wr) ?_ ?_
   · refine qg 14 rfl<|qm rfl<|qv rfl (Zr rfl)<|Ng hm rfl (Qt rfl) (fun c5 hm=>?_) (fun c5 hm=>?_)
     · refine qn 7 rfl ?_
       refine qn 4 rfl<|Qj ?_
       exact⟨rfl,false,Qi,hm,Qw⟩
     refine qm rfl<|qv rfl (Xv (a:=a7) (b:=1) rfl rfl)<|Zm hm rfl (Qt rfl) (fun c6 hm=>?_) (fun c6 hm=>?_)
     · refine qn 7 rfl ?_
       refine qm rfl<|Qj ?_
       exact⟨rfl,true,Qi,hm,Qw⟩
     refine qv rfl (Qg Ji rfl)<|qv rfl (Qf (v:=.int .i64 p0.Depth) Qe rfl G rfl)<|qn 2 rfl ?_
     obtain⟨br,Z,hm⟩:=Qc hm
     refine qv rfl (Qd9 (a:=a7) (b:=2) rfl rfl Z) ?_
     have aF:=(F.gr G6)
     obtain⟨aG,aa,hm⟩:=Qc hm
     refine qe rfl (eC Cw rfl (Ui aa aF)) ?_
     rintro _ bs ⟨rfl,ab⟩
     have bu:=ab.size
     refine qn 2 rfl<|Qj ?_
     exact⟨rfl,aG,Qi,hm,(Qw.gr ab)⟩
   clear hm;rintro H w7 ⟨hm,K7⟩
   have bw:=K7.size
   unfold Nk at hm
   refine Wz hm rfl (fun c4 hm=>?_) (fun c4 hm=>?_)
   · refine qu<|Zd<|Xh<|Zc<|Xa<|qg 3 rfl ?_
     refine qm rfl<|qv rfl (Xn (k:=.i64) (a:=a7) (b:=1) rfl rfl)<|qm rfl<|Qj ?_
     have K_26:Kz [] w2 w7:=((K4.gr Y1).kz K7)
     have aH:=((d.gr Y1).kz K7)
     subst g
     exact⟨rfl,⟨n2,a5,Qb (a7+1),vy6,zy6,gy6⟩,Qi,⟨hm,aH,⟨(Xe (A:=(fun x=>w2.heap.size≤x)) f)⟩,K_26⟩,Nat.lt_succ_self _⟩
   refine qg 6 rfl<|qn 2 rfl<|qv rfl (Kl (cs:=Qm.cs (Qm.mk a7 0)) Dn rfl rfl)<|qe rfl (Kt [(Qm.mk a7 0)] Qm.cs Nz rfl rfl (Vj rfl) rfl rfl rfl) ?_
   rintro bx w8 ⟨bz,bc,ac,G8⟩
   have bA:=G8.size
   have bd:=ac.lth
   have aI:=(((d.gr Y1).kz K7).gr G8)
   obtain⟨aJ,ad,hm⟩:=Qc hm
   refine qe rfl (Ha (l:=a5) (m:=[(Qm.mk a7 0)]) (c:=Qm.cs) Nw rfl rfl aI (Qk.rd ac) ad (by decide)) ?_
   rintro aK w9 ⟨aL,aM,aN,ae,bB,aO⟩
   have bC:=ae.size
   refine qm rfl<|Qa<|Zd<|Xh<|Zc<|Xa<|qg 3 rfl ?_
   refine qm rfl<|qv rfl (Xn (k:=.i64) (a:=a7) (b:=1) rfl rfl)<|qm rfl<|Qj ?_
   have K_25:Kz [] w2 w9:=((((K4.gr Y1).kz K7).gr G8).ka ae (Qd (Xe (A:=(fun x=>w2.heap.size≤x)) f)))
   subst g
   exact⟨rfl,⟨n2,aJ,Qb (a7+1),aK,aL,aM⟩,Qi,⟨hm,aN,⟨(Kc (A:=(fun x=>w2.heap.size≤x)) aO (Xe (A:=(fun x=>w2.heap.size≤x)) f))⟩,K_25⟩,Nat.lt_succ_self _⟩
 refine qu<|Qh ?_
 have Y2:=Gr.trans G5 G6
 have bD:=((X9.kz K4).trans Y2)
 refine qj (β:=Bool) (rg 56 15) (fun I=>[(70,.bool I)]) (fun I wr=>(Ua p0 p1 a5 a7 L I=some r)∧Kz [] w6 wr) ?_ ?_
 · refine qg 15 rfl<|qm rfl<|qv rfl (Zr rfl)<|Hm hm rfl (Qt rfl) (fun aP hm=>?_) (fun aP hm=>?_)
   · refine qn 7 rfl ?_
     refine qn 5 rfl<|Qj ?_
     exact⟨rfl,true,Qi,hm,Qw⟩
   refine qm rfl<|qv rfl (Ky (a:=a7) (b:=1) rfl rfl)<|Jo hm rfl (Qt rfl) (fun aQ hm=>?_) (fun aQ hm=>?_)
   · refine qn 7 rfl ?_
     refine qn 2 rfl<|Qj ?_
     exact⟨rfl,false,Qi,hm,Qw⟩
   refine qv rfl (Qg Ji rfl)<|qv rfl (Qf (v:=.int .i64 p0.Depth) Qe rfl G rfl)<|qn 2 rfl<|qv rfl (Qgn (a:=a7) (b:=1) (by simp) rfl rfl) ?_
   have aR:=(F.gr G6)
   obtain⟨aS,af,hm⟩:=Qc hm
   refine qe rfl (eC Cw rfl (Ui af aR)) ?_
   rintro _ bE ⟨rfl,ag⟩
   have bF:=ag.size
   refine qv rfl (Zr rfl)<|qn 2 rfl<|Qj ?_
   exact⟨rfl,(!aS),Qi,hm,(Qw.gr ag)⟩
 clear hm;rintro I aT ⟨hm,h⟩
 have bG:=h.size
 unfold Ua at hm
 refine Zh hm rfl (fun c7 hm=>?_) (fun c7 hm=>?_)
 · refine Zd<|Xh<|Zc<|Xa<|qg 3 rfl<|qm rfl<|qv rfl (Xn (k:=.i64) (a:=a7) (b:=1) rfl rfl) ?_
   refine qm rfl<|Qj ?_
   have K_35:Kz [] w2 aT:=((K4.gr Y2).kz h)
   have aU:=((d.gr Y2).kz h)
   subst g
   exact⟨rfl,⟨n2,a5,Qb (a7+1),vy6,zy6,gy6⟩,Qi,⟨hm,aU,⟨(Xe (A:=(fun x=>w2.heap.size≤x)) f)⟩,K_35⟩,Nat.lt_succ_self _⟩
 refine qu<|qs 6 rfl<|qv rfl (Qg Ji rfl) ?_
 have ah:=(G.kz h)
 refine qv rfl (Qf (v:=.int .i64 p0.Depth) Qe rfl ah rfl)<|qn 2 rfl ?_
 have aV:=((F.gr G6).kz h)
 obtain⟨Q,ai,hm⟩:=Qc hm
 refine qe rfl (eC Qpa rfl (Qul ai aV)) ?_
 rintro _ aW ⟨rfl,J⟩
 have bH:=J.size
 refine qm rfl<|Qa<|Qh<|qs 3 rfl<|qn 2 rfl ?_
 refine qv rfl (Xv (a:=Q) (b:=a7) rfl rfl)<|Qa<|Zq hm rfl (fun c8 hm=>?_) (fun c8 hm=>?_)
 · refine Zd<|Xh<|Zc<|Xa<|qg 3 rfl<|qm rfl<|qv rfl (Xn (k:=.i64) (a:=a7) (b:=1) rfl rfl) ?_
   refine qm rfl<|Qj ?_
   have K_40:Kz [] w2 aW:=(((K4.gr Y2).kz h).gr J)
   have aX:=(((d.gr Y2).kz h).gr J)
   subst g
   exact⟨rfl,⟨n2,a5,Qb (a7+1),vy6,zy6,gy6⟩,Qi,⟨hm,aX,⟨(Xe (A:=(fun x=>w2.heap.size≤x)) f)⟩,K_40⟩,Nat.lt_succ_self _⟩
 refine qu<|qs 5 rfl<|qn 2 rfl<|qv rfl (Kl (cs:=Qm.cs (Qm.mk a7 Q)) Dn rfl rfl) ?_
 refine qe rfl (Zz (cs:=Qm.cs (Qm.mk 0 0)) Qa2 rfl) ?_
 rintro _ bI ⟨bJ,rfl,aY,M,aj⟩
 have bK:=aj.size
 have be:=M.lt
 refine qe rfl (Jh Wn rfl rfl rfl M rfl rfl) ?_
 rintro _ bL ⟨N,s⟩
 have bM:=s.size
 refine Qa<|Qh<|qs 3 rfl ?_
 have Y3:=Gr.trans J aj
 have ak:=((ah.gr Y3).md s)
 refine qv rfl (Xm Zj rfl ak rfl)<|qv rfl (Xm Wn rfl N rfl) ?_
 obtain⟨bN,al,hm⟩:=Qc hm
 refine qe rfl (eC Qi5 rfl (Ql5 al)) ?_
 rintro _ bO ⟨rfl,o⟩
 have bP:=o.size
 refine Qa<|Zh hm rfl (fun c9 hm=>?_) (fun c9 hm=>?_)
 · refine qs 4 rfl<|qm rfl ?_
   have aZ:=(N.gr o)
   refine qv rfl (Xm Wn rfl aZ rfl) ?_
   have a0:=(((((d.gr Y2).kz h).gr Y3).md s (Xs K)).gr o)
   obtain⟨a2,am,hm⟩:=Qc hm
   refine qe rfl (eC Qe3 rfl (Qfv am (Qk.rd a0))) ?_
   rintro t a3 ⟨_,u,y,rfl,i,z,an⟩
   have bQ:=an.size
   have bf:=i.lth
   refine qm rfl<|Qa<|Zd<|Xh<|Zc<|Xa<|qg 3 rfl ?_
   refine qm rfl<|qv rfl (Xn (k:=.i64) (a:=a7) (b:=1) rfl rfl)<|qm rfl<|Qj ?_
   have K_51:Kz [] w2 a3:=((((((K4.gr Y2).kz h).gr Y3).md s).gr o).gr an)
   subst g
   exact⟨rfl,⟨n2,a2,Qb (a7+1),t,u,y⟩,Qi,⟨hm,i,⟨(Xe (A:=(fun x=>w2.heap.size≤x)) z)⟩,K_51⟩,Nat.lt_succ_self _⟩
 refine qu<|qs 6 rfl<|qv rfl (Qg Ji rfl) ?_
 have a4:=(ak.gr o)
 refine qv rfl (Qf (v:=.int .i64 p0.Depth) Qe rfl a4 rfl)<|qn 2 rfl ?_
 obtain⟨ao,ap,hm⟩:=Qc hm
 refine qe rfl (eC Qi6 rfl (Qla ap)) ?_
 rintro _ bR ⟨rfl,R⟩
 have bS:=R.size
 refine qm rfl<|qd 6 rfl<|qn 3 rfl ?_
 refine qv rfl (Kl (cs:=Qm.cs (Qm.mk a7 ao)) Dn rfl rfl) ?_
 have a6:=((((((d.gr Y2).kz h).gr Y3).md s (Xs K)).gr o).gr R)
 obtain⟨bT,aq,hm⟩:=Qc hm
 refine qe rfl (eC Qe3 rfl (Qfv aq (Qk.rd a6))) ?_
 rintro S bU ⟨_,T,U,rfl,j,V,ar⟩
 have bV:=ar.size
 have bg:=j.lth
 refine qm rfl<|Qa<|qg 6 rfl<|qn 3 rfl<|qv rfl (Kl (cs:=Qm.cs (Qm.mk ao Q)) Dn rfl rfl) ?_
 obtain⟨a8,au,hm⟩:=Qc hm
 refine qe rfl (eC Qe3 rfl (Qfv au (Qk.rd j))) ?_
 rintro B a9 ⟨_,C,D,rfl,n,E,av⟩
 have bW:=av.size
 have bh:=n.lth
 refine qm rfl<|Qj<|Xi<|Xa<|qg 3 rfl<|qm rfl<|qv rfl (Xn (k:=.i64) (a:=a7) (b:=1) rfl rfl) ?_
 refine qm rfl<|Qj ?_
 have K_59:Kz [] w2 a9:=((((((((K4.gr Y2).kz h).gr Y3).md s).gr o).gr R).gr ar).gr av)
 subst g
 exact⟨rfl,⟨n2,a8,Qb (a7+1),B,C,D⟩,Qi,⟨hm,n,⟨(Xe (A:=(fun x=>w2.heap.size≤x)) E)⟩,K_59⟩,Nat.lt_succ_self _⟩
theorem Qug {p0 p1 vp1 zp1 gp1 op1 r}(hm:Iw p0 p1=some r){w:World}(h:Rd w zp1 gp1 op1 1 vp1 (p1.map ic)):
 Calls Tryz.prog 44 [.agg (Qo.cs p0).toArray,vp1].toArray w fun e w'=>∃ v,e=.returned v∧(∃ ur0_s zr0_s gr0_s,v=.tuple [ur0_s,.int .i64 r.2].toArray∧Qk w' zr0_s gr0_s 137 2 ur0_s (r.1.map Qm.cs)∧Xb (zr0_s=0∨w.heap.size≤gr0_s)∧Gr w w'):=by
 have q:=h.lth
 unfold Iw at hm
 refine Xj 17 Tryz.func44 rfl rfl rfl<|qs 3 rfl<|qe rfl (Xq (cs:=Qo.cs p0) rfl rfl) ?_
 rintro _ w1 ⟨b1,rfl,o,g,G1⟩
 have z2:=G1.size
 have s:=g.lt
 refine qn 2 rfl<|Qa<|Qh<|qs 3 rfl<|qv rfl (Xm Zj rfl g rfl) ?_
 obtain⟨x1,i,hm⟩:=Qc hm
 refine qe rfl (eC Qeb rfl (Qfu i)) ?_
 rintro _ w2 ⟨rfl,G2⟩
 have z4:=G2.size
 refine qv rfl (Zr rfl)<|Qa<|Zh hm rfl (fun c1 hm=>?_) (fun c1 hm=>?_)
 · refine qs 2 rfl<|qn 2 rfl<|Qa<|Qp<|Xp ?_
   have Y1:=Gr.trans G1 G2
   have X5:=((Gr.refl w).trans Y1)
   cases hm
   exact⟨_,_,rfl,Jk rfl (Ql rfl) (Ql rfl),(.slice none 0 0),0,0,rfl,(Kx _ 0 137 2),⟨.inl rfl⟩,X5⟩
 refine qu<|Qh<|qs 5 rfl<|qv rfl (Qg Ji rfl) ?_
 have B6:=(g.gr G2)
 refine qv rfl (Qf (v:=.int .i64 p0.Depth) Qe rfl B6 rfl)<|qm rfl ?_
 have Y2:=Gr.trans G1 G2
 have B7:=(h.gr Y2)
 obtain⟨x2,j,hm⟩:=Qc hm
 refine qe rfl (eC Qqd rfl (Quh j B7)) ?_
 rintro _ w3 ⟨rfl,G3⟩
 have z8:=G3.size
 refine qv rfl (Zr rfl)<|Qa<|Zh hm rfl (fun c2 hm=>?_) (fun c2 hm=>?_)
 · refine qs 2 rfl<|qn 2 rfl<|Qa<|Qp<|Xp ?_
   have X9:=(((Gr.refl w).trans Y2).trans G3)
   cases hm
   exact⟨_,_,rfl,Jk rfl (Ql rfl) (Ql rfl),(.slice none 0 0),0,0,rfl,(Kx _ 0 137 2),⟨.inl rfl⟩,X9⟩
 refine qu<|qs 5 rfl ?_
 have k:=(B6.gr G3)
 refine qv rfl (Xm Zj rfl k rfl)<|qm rfl ?_
 have l:=(B7.gr G3)
 obtain⟨x3,m,hm⟩:=Qc hm
 refine qe rfl (eC Qqe rfl (Quf m l)) ?_
 rintro b w4 ⟨_,c,d,rfl,a,f,G4⟩
 have t:=G4.size
 have p:=a.lth
 refine qn 2 rfl<|Qa<|Qp ?_
 have n:=((((Gr.refl w).trans Y2).trans G3).trans G4)
 cases hm
 exact⟨_,_,rfl,Jk rfl (Ql rfl) (Ql rfl),b,c,d,rfl,a,⟨(Xe (A:=(fun x=>w.heap.size≤x)) f)⟩,n⟩
theorem Qur {p0 r}(hm:Ok p0=some r){w:World}:
 Calls Tryz.prog 19 [.agg (Xg.cs p0).toArray].toArray w fun e w'=>∃ v,e=.returned v∧(v=.bool r∧Gr w w'):=by
 unfold Ok at hm
 refine Xj 62 Tryz.func19 rfl rfl rfl<|qs 2 rfl<|qe rfl (Xq (cs:=Xg.cs p0) rfl rfl) ?_
 rintro _ w1 ⟨b1,rfl,m,f,G1⟩
 have z1:=G1.size
 have n:=f.lt
 refine qm rfl<|Qa<|Qh ?_
 have X3:=((Gr.refl w).trans G1)
 refine qj (β:=Bool) (rg 3 31) (fun a1=>[(33,.bool a1)]) (fun a1 wr=>(Nq p0 a1=some r)∧Kz [] w1 wr) ?_ ?_
 · refine dw [([])] [] (.leaf [(0,10),(1,10),(2,10),(3,10),(4,10),(5,10),(6,10),(7,10),(8,10),(9,10),(10,10),(11,10),(12,10),(13,10),(14,10),(15,10),(16,10),(17,10),(18,0),(19,10),(20,10),(21,10),(22,10),(23,10),(24,10),(25,10),(26,10),(27,10),(28,10),(29,10),(30,10)]) ?_
   intro w3 G3 o
   refine Jp<|dh 0 rfl rfl (fun w hS=>Qg Du rfl) ?_
   have d:=(f.gr G3)
   refine dh 0 rfl rfl (fun w hS=>Qf (v:=.int .i64 p0.Depth) Qe rfl (Bx.kp d hS) rfl)<|dh 0 rfl rfl (fun w hS=>Zo (a:=p0.Depth) (b:=0) rfl rfl)<|Ni hm 0 rfl rfl (Kp.refl ([]) w3) (fun w hS=>Qt rfl) (fun c7 hm=>?_) (fun c7 hm=>?_)
   · refine dx 0 rfl rfl<|dx 0 rfl rfl<|dx 0 rfl rfl<|dm 0 rfl rfl<|dm 0 rfl rfl<|dx 0 rfl rfl<|dx 0 rfl rfl ?_
     refine dx 0 rfl rfl<|dm 0 rfl rfl<|dm 0 rfl rfl<|dx 0 rfl rfl<|dx 0 rfl rfl<|dx 0 rfl rfl<|dx 0 rfl rfl ?_
     refine qy rfl<|dx 0 rfl rfl<|dm 0 rfl rfl<|dm 0 rfl rfl<|dx 0 rfl rfl<|dx 0 rfl rfl<|dx 0 rfl rfl ?_
     refine dm 0 rfl rfl<|dm 0 rfl rfl<|dx 0 rfl rfl<|dx 0 rfl rfl<|dx 0 rfl rfl<|dm 0 rfl rfl<|Qj ?_
     exact⟨rfl,true,Qi,hm,(Qw.gr G3)⟩
   refine dh 0 rfl rfl (fun w hS=>Qg Du rfl)<|dh 0 rfl rfl (fun w hS=>Qf (v:=.int .i64 p0.Depth) Qe rfl (Bx.kp d hS) rfl)<|dh 0 rfl rfl (fun w hS=>Ky (a:=p0.Depth) (b:=6) rfl rfl)<|dm 0 rfl rfl<|Ni hm 0 rfl rfl (Kp.refl ([]) w3) (fun w hS=>Qt rfl) (fun c8 hm=>?_) (fun c8 hm=>?_)
   · refine dx 0 rfl rfl<|dx 0 rfl rfl<|dx 0 rfl rfl<|dm 0 rfl rfl<|dm 0 rfl rfl<|dx 0 rfl rfl<|dx 0 rfl rfl ?_
     refine dx 0 rfl rfl<|dx 0 rfl rfl<|qy rfl<|dx 0 rfl rfl<|dm 0 rfl rfl<|dm 0 rfl rfl<|dx 0 rfl rfl ?_
     refine dx 0 rfl rfl<|dx 0 rfl rfl<|dm 0 rfl rfl<|dm 0 rfl rfl<|dx 0 rfl rfl<|dx 0 rfl rfl<|dx 0 rfl rfl ?_
     refine dm 0 rfl rfl<|Qj ?_
     exact⟨rfl,true,Qi,hm,(Qw.gr G3)⟩
   refine dh 0 rfl rfl (fun w hS=>Qg Th rfl)<|dh 0 rfl rfl (fun w hS=>Qf (v:=.int .i64 p0.Revoked) Qe rfl (Bx.kp d hS) rfl)<|dh 0 rfl rfl (fun w hS=>Zo (a:=p0.Revoked) (b:=0) rfl rfl)<|dm 0 rfl rfl<|Ni hm 0 rfl rfl (Kp.refl ([]) w3) (fun w hS=>Qt rfl) (fun c9 hm=>?_) (fun c9 hm=>?_)
   · refine dx 0 rfl rfl<|dx 0 rfl rfl<|dx 0 rfl rfl<|dx 0 rfl rfl<|qy rfl<|dx 0 rfl rfl<|dm 0 rfl rfl ?_
     refine dm 0 rfl rfl<|dx 0 rfl rfl<|dx 0 rfl rfl<|dx 0 rfl rfl<|dm 0 rfl rfl<|dm 0 rfl rfl<|dx 0 rfl rfl ?_
     refine dx 0 rfl rfl<|dx 0 rfl rfl<|dm 0 rfl rfl<|Qj ?_
     exact⟨rfl,true,Qi,hm,(Qw.gr G3)⟩
   refine dh 0 rfl rfl (fun w hS=>Qg Th rfl)<|dh 0 rfl rfl (fun w hS=>Qf (v:=.int .i64 p0.Revoked) Qe rfl (Bx.kp d hS) rfl)<|dh 0 rfl rfl (fun w hS=>Qg Du rfl)<|dh 0 rfl rfl (fun w hS=>Qf (v:=.int .i64 p0.Depth) Qe rfl (Bx.kp d hS) rfl) ?_
   obtain⟨x2,g,hm⟩:=Qc hm
   refine qz [] rfl (eC Dq rfl (Dz g)) ⟨fun _=>Qn,trivial⟩ ?_
   rintro _ w4 ⟨rfl,G4⟩
   have p:=G4.size
   refine kG G4 ?_
   have c:=((Kp.refl ([]) w3).gr G4)
   refine qh 0 rfl rfl c (fun w hS=>Ky (a:=p0.Revoked) (b:=x2) rfl rfl)<|dn 0 rfl rfl c<|Ni hm 0 rfl rfl c (fun w hS=>Qt rfl) (fun h hm=>?_) (fun h hm=>?_)
   · refine qx 0 rfl rfl c<|qx 0 rfl rfl c<|qx 0 rfl rfl c<|dn 0 rfl rfl c<|dn 0 rfl rfl c<|qx 0 rfl rfl c<|qx 0 rfl rfl c ?_
     refine qx 0 rfl rfl c<|dn 0 rfl rfl c<|Qj ?_
     exact⟨rfl,true,Qi,hm,((Qw.gr G3).gr G4)⟩
   refine qh 0 rfl rfl c (fun w hS=>Qg Af rfl)<|qh 0 rfl rfl c (fun w hS=>Qf (v:=.int .i64 p0.Storage) Qe rfl (Bx.kp d hS) rfl)<|qh 0 rfl rfl c (fun w hS=>Zo (a:=p0.Storage) (b:=0) rfl rfl)<|dn 0 rfl rfl c<|Ni hm 0 rfl rfl c (fun w hS=>Qt rfl) (fun i hm=>?_) (fun i hm=>?_)
   · refine qx 0 rfl rfl c<|qx 0 rfl rfl c<|qx 0 rfl rfl c<|dn 0 rfl rfl c<|Qj ?_
     exact⟨rfl,true,Qi,hm,((Qw.gr G3).gr G4)⟩
   refine qh 0 rfl rfl c (fun w hS=>Qg Af rfl)<|qh 0 rfl rfl c (fun w hS=>Qf (v:=.int .i64 p0.Storage) Qe rfl (Bx.kp d hS) rfl)<|qh 0 rfl rfl c (fun w hS=>Ky (a:=p0.Storage) (b:=10000) rfl rfl)<|dn 0 rfl rfl c<|Qj ?_
   exact⟨rfl,(decide ((10000:Int)<p0.Storage)),Qi,hm,((Qw.gr G3).gr G4)⟩
 clear hm;rintro a1 w2 ⟨hm,K2⟩
 have z4:=K2.size
 unfold Nq at hm
 refine Zh hm rfl (fun c1 hm=>?_) (fun c1 hm=>?_)
 · refine qs 1 rfl<|qm rfl<|qb ?_
   have X5:=(X3.kz K2)
   cases hm
   exact⟨_,_,rfl,Qr rfl (Ql rfl),rfl,X5⟩
 refine qu<|qs 29 rfl<|qv rfl (Qg Ag rfl) ?_
 have B6:=(f.kz K2)
 refine qv rfl (Qf (v:=.int .i64 p0.Headers) Qe rfl B6 rfl)<|qv rfl (Yq (a:=p0.Headers) (b:=0) rfl rfl)<|Jo hm rfl (Qt rfl) (fun c2 hm=>?_) (fun c2 hm=>?_)
 · refine qn 7 rfl ?_
   refine qn 7 rfl ?_
   refine qn 7 rfl ?_
   refine qn 4 rfl<|Qa<|Qp ?_
   have j:=(X3.kz K2)
   cases hm
   exact⟨_,_,rfl,Qr rfl (Ql rfl),rfl,j⟩
 refine qv rfl (Qg Ag rfl)<|qv rfl (Qf (v:=.int .i64 p0.Headers) Qe rfl B6 rfl)<|qv rfl (Yr (a:=p0.Headers) (b:=1000) rfl rfl)<|qm rfl<|Jo hm rfl (Qt rfl) (fun c3 hm=>?_) (fun c3 hm=>?_)
 · refine qn 7 rfl ?_
   refine qn 7 rfl ?_
   refine qn 6 rfl<|Qa ?_
   refine Qp ?_
   have k:=(X3.kz K2)
   cases hm
   exact⟨_,_,rfl,Qr rfl (Ql rfl),rfl,k⟩
 refine qv rfl (Qg Ah rfl)<|qv rfl (Qf (v:=.int .i64 p0.HeaderPrice) Qe rfl B6 rfl)<|qv rfl (Yq (a:=p0.HeaderPrice) (b:=0) rfl rfl)<|qm rfl<|Jo hm rfl (Qt rfl) (fun c4 hm=>?_) (fun c4 hm=>?_)
 · refine qn 7 rfl ?_
   refine qn 7 rfl ?_
   refine qm rfl<|Qa<|Qp ?_
   have l:=(X3.kz K2)
   cases hm
   exact⟨_,_,rfl,Qr rfl (Ql rfl),rfl,l⟩
 refine qv rfl (Qg Ah rfl)<|qv rfl (Qf (v:=.int .i64 p0.HeaderPrice) Qe rfl B6 rfl)<|qv rfl (Yr (a:=p0.HeaderPrice) (b:=1000) rfl rfl)<|qm rfl<|Jo hm rfl (Qt rfl) (fun c5 hm=>?_) (fun c5 hm=>?_)
 · refine qn 7 rfl ?_
   refine qn 3 rfl<|Qa<|Qp ?_
   have X9:=(X3.kz K2)
   cases hm
   exact⟨_,_,rfl,Qr rfl (Ql rfl),rfl,X9⟩
 refine qv rfl (Qg Ai rfl)<|qv rfl (Qf (v:=.int .i64 p0.StoragePrice) Qe rfl B6 rfl)<|qv rfl (Yq (a:=p0.StoragePrice) (b:=0) rfl rfl)<|qm rfl<|Jo hm rfl (Qt rfl) (fun c6 hm=>?_) (fun c6 hm=>?_)
 · refine qn 5 rfl<|Qa<|Qp ?_
   have X8:=(X3.kz K2)
   cases hm
   exact⟨_,_,rfl,Qr rfl (Ql rfl),rfl,X8⟩
 refine qv rfl (Qg Ai rfl)<|qv rfl (Qf (v:=.int .i64 p0.StoragePrice) Qe rfl B6 rfl)<|qv rfl (Yr (a:=p0.StoragePrice) (b:=1000) rfl rfl)<|qn 2 rfl<|Qa<|Qp ?_
 have X7:=(X3.kz K2)
 cases hm
 exact⟨_,_,rfl,Qr rfl (Ql rfl),rfl,X7⟩
theorem Qlh {p0 p1 vp1_7 zp1_7 gp1_7 op1_7 r}(hm:Ou p0 p1=some r){w:World}(f:Rd w zp1_7 gp1_7 op1_7 1 vp1_7 (p1.Witness.map ic)):
 Calls Tryz.prog 22 [.agg (Xg.cs p0).toArray,.agg (Qq.cs p1 vp1_7).toArray].toArray w fun e w'=>∃ v,e=.returned v∧(v=.bool r∧Gr w w'):=by
 have F:=f.lth
 unfold Ou at hm
 refine Xj 41 Tryz.func22 rfl rfl rfl<|qs 3 rfl<|qe rfl (Xq (cs:=Xg.cs p0) rfl rfl) ?_
 rintro _ w1 ⟨b1,rfl,C,i,G1⟩
 have z2:=G1.size
 have G:=i.lt
 refine qe rfl (Xq (cs:=Qq.cs p1 vp1_7) rfl rfl) ?_
 rintro _ w2 ⟨b2,rfl,D,h,G2⟩
 have z4:=G2.size
 have H:=h.lt
 refine qm rfl<|Qa<|Qh<|qs 3 rfl<|qv rfl (Qg Lp rfl)<|qv rfl (Qf (v:=bv p1.Kind) Zb rfl h rfl) ?_
 refine qv rfl (Jz (p:=p1.Kind) (q:=4#8) rfl rfl)<|Qa<|Zq hm rfl (fun c1 hm=>?_) (fun c1 hm=>?_)
 · refine qs 5 rfl<|qv rfl (Qg Ht rfl)<|qv rfl (Qf (v:=vp1_7) Zp rfl h rfl) ?_
   have Y1:=Gr.trans G1 G2
   have B6:=(f.gr Y1)
   refine qv rfl (Vm (l:=p1.Witness) (c:=ic) Tryz.underlying30 rfl B6)<|qv rfl (Xv (a:=(p1.Witness.length:Int)) (b:=0) rfl rfl)<|qm rfl<|qb ?_
   have X7:=((Gr.refl w).trans Y1)
   cases hm
   exact⟨_,_,rfl,Qr rfl (Ql rfl),rfl,X7⟩
 refine qu<|Qh<|dw [([])] [] (.leaf [(0,10),(1,10),(2,10),(4,10),(5,10),(3,0),(6,0),(7,10),(8,10),(9,10),(10,10),(11,10)]) ?_
 intro w3 G3 I
 refine Jp ?_
 have Y2:=Gr.trans G2 G3
 have B8:=(i.gr Y2)
 refine dh 0 rfl rfl (fun w hS=>Xm Wx rfl (Bx.kp B8 hS) rfl)<|dh 0 rfl rfl (fun w hS=>Qg Lp rfl) ?_
 have B9:=(h.gr G3)
 refine dh 0 rfl rfl (fun w hS=>Qf (v:=bv p1.Kind) Zb rfl (Bx.kp B9 hS) rfl)<|dh 0 rfl rfl (fun w hS=>Qg Ht rfl)<|dh 0 rfl rfl (fun w hS=>Qf (v:=vp1_7) Zp rfl (Bx.kp B9 hS) rfl) ?_
 obtain⟨x1,t,hm⟩:=Qc hm
 refine qz [] rfl (eC Qi2 rfl (Qlb t)) ⟨fun _=>Qn,trivial⟩ ?_
 rintro _ w4 ⟨rfl,G4⟩
 have J:=G4.size
 refine kG G4 ?_
 have Y3:=Gr.trans (Gr.trans G1 Y2) G4
 have j:=(f.gr Y3)
 obtain⟨x2,u,hm⟩:=Qc hm
 refine qz [] rfl (eC Qpx rfl (Qug u j)) ⟨fun _=>Qn,trivial⟩ ?_
 rintro _ w5 ⟨k,m,n,rfl,d,o,G5⟩
 have K:=G5.size
 have E:=d.lth
 refine kG G5 ?_
 have Y4:=Gr.trans G4 G5
 have g:=((Kp.refl ([]) w3).gr Y4)
 refine dn 0 rfl rfl g<|dn 0 rfl rfl g<|dn 0 rfl rfl g<|dn 0 rfl rfl g<|dn 0 rfl rfl g<|Qa<|Qh ?_
 refine qg 18 rfl<|qm rfl<|qv rfl (Xv (a:=x2.2) (b:=0) rfl rfl)<|Jo hm rfl (Qt rfl) (fun c2 hm=>?_) (fun c2 hm=>?_)
 · refine qn 7 rfl ?_
   refine qn 7 rfl ?_
   refine qm rfl<|Qa<|Qp ?_
   have x:=(((Gr.refl w).trans Y3).trans G5)
   cases hm
   exact⟨_,_,rfl,Qr rfl (Ql rfl),rfl,x⟩
 refine qv rfl (Qg Ht rfl) ?_
 have s:=(B9.gr Y4)
 refine qv rfl (Qf (v:=vp1_7) Zp rfl s rfl) ?_
 have y:=(j.gr G5)
 refine qv rfl (Vm (l:=p1.Witness) (c:=ic) Tryz.underlying30 rfl y)<|qv rfl (Qg Th rfl) ?_
 have z:=(B8.gr Y4)
 refine qv rfl (Qf (v:=.int .i64 p0.Revoked) Qe rfl z rfl)<|qv rfl (Yr (a:=(p1.Witness.length:Int)) (b:=p0.Revoked) rfl rfl)<|qm rfl<|Jo hm rfl (Qt rfl) (fun c3 hm=>?_) (fun c3 hm=>?_)
 · refine qn 7 rfl ?_
   refine Qa<|Qp ?_
   have A:=(((Gr.refl w).trans Y3).trans G5)
   cases hm
   exact⟨_,_,rfl,Qr rfl (Ql rfl),rfl,A⟩
 refine qm rfl<|qv rfl (Vm (l:=x2.1) (c:=Qm.cs) Tryz.underlying101 rfl (Qk.rd d))<|qv rfl (Qg Ti rfl)<|qv rfl (Qf (v:=.int .i64 p1.Items) Qe rfl s rfl)<|qv rfl (Xv (a:=(x2.1.length:Int)) (b:=p1.Items) rfl rfl)<|qn 2 rfl ?_
 refine Qa<|Qp ?_
 have B:=(((Gr.refl w).trans Y3).trans G5)
 cases hm
 exact⟨_,_,rfl,Qr rfl (Ql rfl),rfl,B⟩
theorem Qun {p0 p1 vp1_0 zp1_0 gp1_0 op1_0 Fp1_0 r}(hm:Sr p0 p1=some r){w:World}(m:Xx Yx w zp1_0 gp1_0 op1_0 vp1_0 Fp1_0 p1.Choices):
 Calls Tryz.prog 6 [.agg (Xg.cs p0).toArray,.agg (Xk.cs p1 vp1_0).toArray].toArray w fun e w'=>∃ v,e=.returned v∧(v=.int .i64 r∧Gr w w'):=by
 have L:=m.flt
 have M:=m.lth
 unfold Sr at hm
 refine Xj 55 Tryz.func6 rfl rfl rfl<|qs 3 rfl<|qe rfl (Xq (cs:=Xg.cs p0) rfl rfl) ?_
 rintro _ w1 ⟨b1,rfl,aS,N,G1⟩
 have z3:=G1.size
 have bL:=N.lt
 refine qe rfl (Xq (cs:=Xk.cs p1 vp1_0) rfl rfl) ?_
 rintro _ w2 ⟨b2,rfl,aT,C,G2⟩
 have z5:=G2.size
 have bM:=C.lt
 refine qm rfl<|Qa<|Qh<|qs 3 rfl ?_
 have B7:=(N.gr G2)
 refine qv rfl (Xm Wx rfl B7 rfl) ?_
 obtain⟨x1,au,hm⟩:=Qc hm
 refine qe rfl (eC Qpo rfl (Qur au)) ?_
 rintro _ w3 ⟨rfl,G3⟩
 have z8:=G3.size
 refine qv rfl (Zr rfl)<|Qa<|Zh hm rfl (fun c1 hm=>?_) (fun c1 hm=>?_)
 · refine qs 1 rfl<|qm rfl<|qb ?_
   have Y1:=Gr.trans (Gr.trans G1 G2) G3
   have X9:=((Gr.refl w).trans Y1)
   cases hm
   exact⟨_,_,rfl,Qr rfl (Ql rfl),rfl,X9⟩
 refine qu<|qs 4 rfl ?_
 have D:=(B7.gr G3)
 refine qv rfl (Xm Wx rfl D rfl) ?_
 obtain⟨x2,av,hm⟩:=Qc hm
 refine qe rfl (eC Qpr rfl (Qup av)) ?_
 rintro _ w4 ⟨g,O,P,Q,rfl,h,R,S,G4⟩
 have bN:=G4.size
 have y:=h.flt
 have z:=h.lth
 refine qe rfl (Zz (cs:=Xk.cs (Xk.mk [] 0#8) (.slice none 0 0)) Nu rfl) ?_
 rintro _ w5 ⟨b5,rfl,aU,T,G5⟩
 have bO:=G5.size
 have aV:=T.lt
 have E:=(h.gr G5)
 refine qe rfl (Jh Wy rfl rfl (Xk.cs_ones _ _ (Xw.oneB E)) T rfl rfl) ?_
 rintro _ w6 ⟨F,M6⟩
 have bP:=M6.size
 refine Qa<|Qh ?_
 have Y2:=Gr.trans (Gr.trans (Gr.trans (Gr.trans G1 G2) G3) G4) G5
 have U:=(((Gr.refl w).trans Y2).md M6)
 refine qj (β:=Bool) (rg 12 14) (fun a3=>[(25,.bool a3)]) (fun a3 wr=>(Oe p0 p1 x2 a3=some r)∧Kz [] w6 wr) ?_ ?_
 · refine qg 14 rfl<|qv rfl (Qg Vc rfl) ?_
   have Y3:=Gr.trans (Gr.trans G3 G4) G5
   have V:=((C.gr Y3).md M6)
   refine qv rfl (Qf (v:=vp1_0) Kw rfl V rfl) ?_
   have aw:=((m.gr Y2).md M6 (Qd (Xs (b:=b5) M)) (fun x hx=>.inr (by have:=L x hx;omega)))
   refine qv rfl (Hq (l:=p1.Choices) Tryz.underlying27 rfl aw)<|qv rfl (Qg Vc rfl)<|qv rfl (Qf (v:=g) Kw rfl F rfl) ?_
   have ax:=(E.md M6 (Qd (Xs (b:=b5) z)) (fun x hx=>.inr (by have:=y x hx;omega)))
   refine qv rfl (Hq (l:=x2.Choices) Tryz.underlying27 rfl (Xw.rd ax))<|qv rfl (Ke (a:=(p1.Choices.length:Int)) (b:=(x2.Choices.length:Int)) rfl rfl)<|Zm hm rfl (Qt rfl) (fun c7 hm=>?_) (fun c7 hm=>?_)
   · refine qn 6 rfl<|Qj ?_
     exact⟨rfl,true,Qi,hm,Qw⟩
   refine qv rfl (Qg Hb rfl)<|qv rfl (Qf (v:=bv p1.Best) Zb rfl V rfl)<|qv rfl (Qg Hb rfl)<|qv rfl (Qf (v:=bv x2.Best) Zb rfl F rfl)<|qv rfl (Bp (p:=p1.Best) (q:=x2.Best) rfl rfl)<|qm rfl<|Qj ?_
   exact⟨rfl,(decide (p1.Best≠x2.Best)),Qi,hm,Qw⟩
 clear hm;rintro a3 w7 ⟨hm,K7⟩
 have bQ:=K7.size
 unfold Oe at hm
 refine Zh hm rfl (fun c2 hm=>?_) (fun c2 hm=>?_)
 · refine qs 1 rfl<|qm rfl<|qb ?_
   have ay:=(U.kz K7)
   cases hm
   exact⟨_,_,rfl,Qr rfl (Ql rfl),rfl,ay⟩
 refine qu<|Qh<|qs 1 rfl<|qm rfl<|Qa ?_
 refine Xc ?_
 have W:=(U.kz K7)
 have az:=(((m.gr Y2).md M6 (Qd (Xs (b:=b5) M)) (fun x hx=>.inr (by have:=L x hx;omega))).kz K7 Qn (fun x hx=>Qn))
 have aA:=((E.md M6 (Qd (Xs (b:=b5) z)) (fun x hx=>.inr (by have:=y x hx;omega))).kz K7 Qn (fun x hx=>Qn))
 refine Zv (α:=Nat × Int) ([4,6]++rg 26 29) (fun⟨n2,a5⟩=>[(4,.int .i64 0),(6,.int .i64 a5)]) (fun⟨n2,a5⟩ wr=>(Qs (Uk p0 p1 x2) n2 a5=some r)∧Kz [] w7 wr) (fun⟨n2,a5⟩=>n2) ⟨Qy,0⟩ ?_ ?_ ?_
 · exact Qi
 · exact⟨hm,Kz.refl _ _⟩
 clear hm;rintro⟨n2,a5⟩ w8 ⟨hm,K8⟩
 have bR:=K8.size
 have hb:=Zu hm;clear hm;obtain⟨n2,rfl,hm⟩:=hb
 generalize G:Qs (Uk p0 p1 x2) n2=X at hm
 unfold Uk at hm
 try dsimp only at hm
 refine Qh<|qs 5 rfl<|qm rfl<|qv rfl (Qg Vc rfl) ?_
 have Y:=((F.kz K7).kz K8)
 refine qv rfl (Qf (v:=g) Kw rfl Y rfl) ?_
 have Z:=(aA.kz K8 Qn (fun x hx=>Qn))
 refine qv rfl (Hq (l:=x2.Choices) Tryz.underlying27 rfl (Xw.rd Z))<|qv rfl (Zo (a:=a5) (b:=(x2.Choices.length:Int)) rfl rfl)<|Qa<|Zy hm rfl (fun c3 hm=>?_) (fun c3 hm=>?_)
 · refine Zd<|Xh<|Xh<|Zc<|Xa<|qs 1 rfl ?_
   refine qm rfl<|Qa<|Qp ?_
   have aB:=(W.kz K8)
   cases hm
   exact⟨_,_,rfl,Qr rfl (Ql rfl),rfl,aB⟩
 refine qu<|Qh<|Xc ?_
 have aC:=(W.kz K8)
 refine qj (β:=Bool) (rg 33 22) (fun a6=>[(54,.bool a6)]) (fun a6 wr=>(Og a5 X a6=some r)∧Kz [] w8 wr) ?_ ?_
 · refine dw [([])] [] (.fork [(0,10),(1,10),(2,10),(3,10),(5,10),(6,10),(7,10),(8,10)] (.leaf [(4,0),(9,0),(10,0),(11,10),(12,10),(13,10),(14,10),(15,10),(16,10),(17,10),(18,0),(19,0),(20,10),(21,10)]) (.leaf [(9,0),(4,0),(10,0),(11,10),(12,10),(13,10),(14,10),(15,10),(16,10),(17,10),(18,0),(19,0),(20,10),(21,10)])) ?_
   intro aa j aW
   refine Qly<|dh 0 rfl rfl (fun w hS=>Qg Vc rfl) ?_
   have Y4:=Gr.trans (Gr.trans G3 G4) G5
   have H:=(((((C.gr Y4).md M6).kz K7).kz K8).gr j)
   refine dh 0 rfl rfl (fun w hS=>Qf (v:=vp1_0) Kw rfl (Bx.kp H hS) rfl)<|dm 0 rfl rfl ?_
   obtain⟨y7,I,hm⟩:=Qc hm
   have n:=((az.kz K8 Qn (fun x hx=>Qn)).gr j)
   refine dh 0 rfl rfl (fun w hS=>Vu (i:=a5) Tryz.underlying27 (Zf).siz rfl (Xx.kp n hS (.inr List.not_mem_nil) (fun _ _=>List.not_mem_nil)) rfl I)<|dh 0 rfl rfl (fun w hS=>Qg Vc rfl) ?_
   have aD:=(Y.gr j)
   refine dh 0 rfl rfl (fun w hS=>Qf (v:=g) Kw rfl (Bx.kp aD hS) rfl)<|dm 0 rfl rfl ?_
   obtain⟨y8,J,hm⟩:=Qc hm
   have K:=(Z.gr j)
   refine dh 0 rfl rfl (fun w hS=>Vu (i:=a5) Tryz.underlying27 (Zf).siz rfl (Xw.rd (Xw.kp K hS (.inr List.not_mem_nil) (fun _ _=>List.not_mem_nil))) rfl J)<|Qlx ?_ ?_
   · refine Jp ?_
     obtain⟨aX,aY,aZ,a0,a1,aE,ab,ac,a2⟩:=Hk n I
     have a4:=ac.lth
     refine qw rfl (Hp (c:=(fun p=>Qq.cs p.1 p.2)) Zf rfl aE ab (by first|rfl|omega)) ?_
     obtain⟨a7,a8,a9,ba,bb,aF,ad,ae,bc⟩:=Hk (Xw.rd K) J
     have bd:=ae.lth
     refine qw rfl (Hp (c:=(fun p=>Qq.cs p.1 p.2)) Zf rfl aF ad (by first|rfl|omega)) ?_
     obtain⟨x9,aG,hm⟩:=Qc hm
     refine qz [] rfl (eC Qe4 rfl (Qfx aG ac ae)) ⟨fun _=>Qn,trivial⟩ ?_
     rintro _ bS ⟨rfl,o⟩
     have bT:=o.size
     refine kG o ?_
     have d:=((Kp.refl ([]) aa).gr o)
     refine qh 0 rfl rfl d (fun w hS=>Zr rfl)<|Il hm 0 rfl rfl d (fun w hS=>Qt rfl) (fun c5 hm=>?_) (fun c5 hm=>?_)
     · refine qx 0 rfl rfl d<|qx 0 rfl rfl d<|qx 0 rfl rfl d<|qx 0 rfl rfl d<|qx 0 rfl rfl d<|qy rfl<|qy rfl ?_
       refine qx 0 rfl rfl d<|dn 0 rfl rfl d<|Qj ?_
       exact⟨rfl,true,Qi,hm,((Qw.gr j).gr o)⟩
     have Y5:=Gr.trans G4 G5
     have aH:=(((((D.gr Y5).md M6).kz K7).kz K8).gr j)
     refine qh 0 rfl rfl d (fun w hS=>Xm Wx rfl (Bx.kp aH hS) rfl)<|qh 0 rfl rfl d (fun w hS=>Qg Vc rfl)<|qh 0 rfl rfl d (fun w hS=>Qf (v:=vp1_0) Kw rfl (Bx.kp H hS) rfl)<|dn 0 rfl rfl d ?_
     obtain⟨bU,A,hm⟩:=Qc hm
     refine qh 0 rfl rfl d (fun w hS=>Vu (i:=a5) Tryz.underlying27 (Zf).siz rfl (Xx.kp n hS (.inr List.not_mem_nil) (fun _ _=>List.not_mem_nil)) rfl A) ?_
     have aI:=(n.gr o)
     obtain⟨be,bf,bg,bh,bi,aJ,af,ag,bj⟩:=Hk aI A
     have bk:=ag.lth
     refine qw rfl (Hp (c:=(fun p=>Qq.cs p.1 p.2)) Zf rfl aJ af (by first|rfl|omega)) ?_
     obtain⟨aK,ah,hm⟩:=Qc hm
     refine qz [] rfl (eC Qik rfl (Qlh ah ag)) ⟨fun _=>Qn,trivial⟩ ?_
     rintro _ bV ⟨rfl,t⟩
     have bW:=t.size
     refine kG t ?_
     have ai:=(d.gr t)
     refine qh 0 rfl rfl ai (fun w hS=>Zr rfl)<|dn 0 rfl rfl ai<|Qj ?_
     exact⟨rfl,(!aK),Qi,hm,(((Qw.gr j).gr o).gr t)⟩
   refine Jp ?_
   obtain⟨bm,bo,bp,bq,br,aL,aj,ak,bs⟩:=Hk (Xw.rd K) J
   have bu:=ak.lth
   refine qw rfl (Hp (c:=(fun p=>Qq.cs p.1 p.2)) Zf rfl aL aj (by first|rfl|omega)) ?_
   obtain⟨bw,bx,bz,bA,bB,aM,al,am,bC⟩:=Hk n I
   have bD:=am.lth
   refine qw rfl (Hp (c:=(fun p=>Qq.cs p.1 p.2)) Zf rfl aM al (by first|rfl|omega)) ?_
   obtain⟨bX,an,hm⟩:=Qc hm
   refine qz [] rfl (eC Qe4 rfl (Qfx an am ak)) ⟨fun _=>Qn,trivial⟩ ?_
   rintro _ bY ⟨rfl,s⟩
   have bZ:=s.size
   refine kG s ?_
   have f:=((Kp.refl ([]) aa).gr s)
   refine qh 0 rfl rfl f (fun w hS=>Zr rfl)<|Il hm 0 rfl rfl f (fun w hS=>Qt rfl) (fun c6 hm=>?_) (fun c6 hm=>?_)
   · refine qx 0 rfl rfl f<|qx 0 rfl rfl f<|qx 0 rfl rfl f<|qx 0 rfl rfl f<|qx 0 rfl rfl f<|qy rfl<|qy rfl ?_
     refine qx 0 rfl rfl f<|dn 0 rfl rfl f<|Qj ?_
     exact⟨rfl,true,Qi,hm,((Qw.gr j).gr s)⟩
   have Y6:=Gr.trans G4 G5
   have aN:=(((((D.gr Y6).md M6).kz K7).kz K8).gr j)
   refine qh 0 rfl rfl f (fun w hS=>Xm Wx rfl (Bx.kp aN hS) rfl)<|qh 0 rfl rfl f (fun w hS=>Qg Vc rfl)<|qh 0 rfl rfl f (fun w hS=>Qf (v:=vp1_0) Kw rfl (Bx.kp H hS) rfl)<|dn 0 rfl rfl f ?_
   obtain⟨b0,B,hm⟩:=Qc hm
   refine qh 0 rfl rfl f (fun w hS=>Vu (i:=a5) Tryz.underlying27 (Zf).siz rfl (Xx.kp n hS (.inr List.not_mem_nil) (fun _ _=>List.not_mem_nil)) rfl B) ?_
   have aO:=(n.gr s)
   obtain⟨bE,bF,bG,bH,bI,aP,ao,ap,bJ⟩:=Hk aO B
   have bK:=ap.lth
   refine qw rfl (Hp (c:=(fun p=>Qq.cs p.1 p.2)) Zf rfl aP ao (by first|rfl|omega)) ?_
   obtain⟨aQ,aq,hm⟩:=Qc hm
   refine qz [] rfl (eC Qik rfl (Qlh aq ap)) ⟨fun _=>Qn,trivial⟩ ?_
   rintro _ b3 ⟨rfl,u⟩
   have b4:=u.size
   refine kG u ?_
   have ar:=(f.gr u)
   refine qh 0 rfl rfl ar (fun w hS=>Zr rfl)<|dn 0 rfl rfl ar<|Qj ?_
   exact⟨rfl,(!aQ),Qi,hm,(((Qw.gr j).gr s).gr u)⟩
 clear hm;rintro a6 w9 ⟨hm,K9⟩
 have b6:=K9.size
 unfold Og at hm
 refine Zh hm rfl (fun c4 hm=>?_) (fun c4 hm=>?_)
 · refine qs 1 rfl<|qm rfl<|Qa<|Qp<|Zk<|Xp ?_
   refine Xp<|Zk<|Xp ?_
   have aR:=(aC.kz K9)
   cases hm
   exact⟨_,_,rfl,Qr rfl (Ql rfl),rfl,aR⟩
 refine Jb<|Xi<|Xa<|qg 3 rfl<|qm rfl<|qv rfl (Xn (k:=.i64) (a:=a5) (b:=1) rfl rfl)<|qm rfl ?_
 refine Qj ?_
 have K_30:Kz [] w7 w9:=(K8.kz K9)
 subst G
 exact⟨rfl,⟨n2,Qb (a5+1)⟩,Qi,⟨hm,K_30⟩,Nat.lt_succ_self _⟩
end Go.Proofs.YtopkalcefepilaaGreat.Mx
