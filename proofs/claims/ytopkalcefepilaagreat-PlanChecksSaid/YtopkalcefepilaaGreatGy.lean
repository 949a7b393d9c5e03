/- Walks that follow mirrors: Gy. Printed by mx.py. -/
import Derived.Test.YtopkalcefepilaaGreatGw
import Derived.Test.YtopkalcefepilaaGreatZd
set_option linter.unusedVariables false
set_option linter.unusedSimpArgs false
set_option maxRecDepth 100000
set_option maxHeartbeats 2000000
namespace Go.Proofs.YtopkalcefepilaaGreat.Mx
open Go Go.RowKit Go.Sx
theorem Qi2:En Tryz.prog 10:=fun _ _=>by kernel_rfl
theorem Qib:En Tryz.prog 173:=fun _ _=>by kernel_rfl
theorem Qpi:En Tryz.prog 174:=fun _ _=>by kernel_rfl
theorem Qp7:En Tryz.prog 132:=fun _ _=>by kernel_rfl
theorem Qq9:En Tryz.prog 81:=fun _ _=>by kernel_rfl
theorem Qic:En Tryz.prog 175:=fun _ _=>by kernel_rfl
theorem Qig:En Tryz.prog 183:=fun _ _=>by kernel_rfl
theorem Qif:En Tryz.prog 182:=fun _ _=>by kernel_rfl
theorem Qpq:En Tryz.prog 198:=fun _ _=>by kernel_rfl
theorem Qih:En Tryz.prog 184:=fun _ _=>by kernel_rfl
theorem Qi6:En Tryz.prog 142:=fun _ _=>by kernel_rfl
theorem Qi5:En Tryz.prog 140:=fun _ _=>by kernel_rfl
theorem Qp8:En Tryz.prog 133:=fun _ _=>by kernel_rfl
theorem Qqa:En Tryz.prog 82:=fun _ _=>by kernel_rfl
theorem Qqb:En Tryz.prog 83:=fun _ _=>by kernel_rfl
theorem Qqc:En Tryz.prog 84:=fun _ _=>by kernel_rfl
theorem Qpw:En Tryz.prog 43:=fun _ _=>by kernel_rfl
theorem Qlb {p0 p1 r}(hm:Ur p0 p1=some r){w:World}:
 Calls Tryz.prog 10 [.agg (Xg.cs p0).toArray,bv p1].toArray w fun e w'=>∃ v,e=.returned v∧(v=.agg (Qo.cs r).toArray∧Gr w w'):=by
 unfold Ur at hm
 refine Xj 20 Tryz.func10 rfl rfl rfl<|qs 2 rfl<|qe rfl (Xq (cs:=Xg.cs p0) rfl rfl) ?_
 rintro _ w1 ⟨b1,rfl,o,b,G1⟩
 have z1:=G1.size
 have u:=b.lt
 refine qe rfl (Zz (cs:=Qo.cs (Qo.mk 0#8 0 0 (Xz.mk 0#64 0#64 0#64))) Bt rfl) ?_
 rintro _ w2 ⟨b2,rfl,s,a,G2⟩
 have z3:=G2.size
 have x:=a.lt
 refine qd 6 rfl<|qm rfl<|qv rfl (Qg Du rfl) ?_
 have B5:=(b.gr G2)
 refine qv rfl (Qf (v:=.int .i64 p0.Depth) Qe rfl B5 rfl)<|qv rfl (Kl (cs:=Qo.cs (Qo.mk p1 p0.Depth 0 (Xz.mk 0#64 0#64 0#64))) Cf rfl rfl)<|qe rfl (Zz (cs:=Qo.cs (Qo.mk 0#8 0 0 (Xz.mk 0#64 0#64 0#64))) Bt rfl) ?_
 rintro _ w3 ⟨b3,rfl,t,c,G3⟩
 have z6:=G3.size
 have y:=c.lt
 refine qe rfl (Jh Zj rfl rfl rfl c rfl rfl) ?_
 rintro _ w4 ⟨d,M4⟩
 have z8:=M4.size
 refine Qa<|Qh<|qs 2 rfl<|qm rfl<|qv rfl (Jz (p:=p1) (q:=4#8) rfl rfl)<|Qa ?_
 refine Zy hm rfl (fun c1 hm=>?_) (fun c1 hm=>?_)
 · refine qu<|qs 2 rfl<|qv rfl (Xm Zj rfl d rfl) ?_
   have f:=((a.gr G3).md M4)
   refine qe rfl (Jh Zj rfl rfl rfl f rfl rfl) ?_
   rintro _ w8 ⟨g,M8⟩
   have z:=M8.size
   refine Qa<|Qp ?_
   have h:=((((((Gr.refl w).trans G1).trans G2).trans G3).md M4).md M8)
   cases hm
   exact⟨_,_,rfl,Qr rfl (Wc Zj rfl g rfl),rfl,h⟩
 refine qs 5 rfl<|qv rfl (Qg Th rfl) ?_
 have B9:=((B5.gr G3).md M4)
 refine qv rfl (Qf (v:=.int .i64 p0.Revoked) Qe rfl B9 rfl)<|qv rfl (Qa1 rfl rfl)<|qv rfl (Qg Tl rfl)<|qe rfl (Zs (cs':=Qo.cs (Qo.mk p1 p0.Depth (Vp p0.Revoked 1) (Xz.mk 0#64 0#64 0#64))) (Qe).siz rfl rfl rfl d rfl rfl) ?_
 rintro _ w5 ⟨i,M5⟩
 have A:=M5.size
 refine Qa<|qg 4 rfl<|qv rfl (Qg Qja rfl) ?_
 have j:=(B9.md M5)
 refine qv rfl (Eh (vs:=Xz.cs p0.Group) Tc rfl j rfl rfl)<|qv rfl (Qg Mf rfl)<|qe rfl (Qj7 (cs':=Qo.cs (Qo.mk p1 p0.Depth (Vp p0.Revoked 1) p0.Group)) (vs:=Xz.cs p0.Group) (Tc).siz rfl rfl rfl rfl rfl i rfl rfl) ?_
 rintro _ w6 ⟨k,M6⟩
 have B:=M6.size
 refine qd 2 rfl<|qv rfl (Xm Zj rfl k rfl) ?_
 have l:=((((a.gr G3).md M4).md M5).md M6)
 refine qe rfl (Jh Zj rfl rfl rfl l rfl rfl) ?_
 rintro _ w7 ⟨m,M7⟩
 have C:=M7.size
 refine Qa<|Qp ?_
 have n:=((((((((Gr.refl w).trans G1).trans G2).trans G3).md M4).md M5).md M6).md M7)
 cases hm
 exact⟨_,_,rfl,Qr rfl (Wc Zj rfl m rfl),rfl,n⟩
theorem Ql3 {p0 r}(hm:Io p0=some r){w:World}:
 Calls Tryz.prog 173 [wv p0].toArray w fun e w'=>∃ v,e=.returned v∧(v=.bool r∧Gr w w'):=by
 unfold Io at hm
 refine Xj 17 Tryz.func173 rfl rfl rfl<|qs 1 rfl<|qm rfl<|Qa<|Qh<|Qh ?_
 refine qg 1 rfl<|qm rfl<|Qa<|Xc<|Zv (α:=Nat × BitVec 64) (rg 2 13) (fun⟨n1,a2⟩=>[(2,.bool false),(3,wv a2)]) (fun⟨n1,a2⟩ wr=>(Qs (Ip p0) n1 a2=some r)∧Kz [] w wr) (fun⟨n1,a2⟩=>n1) ⟨Qy,2#64⟩ ?_ ?_ ?_
 · exact Qi
 · exact⟨hm,Kz.refl _ _⟩
 clear hm;rintro⟨n1,a2⟩ w1 ⟨hm,K1⟩
 have z1:=K1.size
 have hb:=Zu hm;clear hm;obtain⟨n1,rfl,hm⟩:=hb
 generalize f:Qs (Ip p0) n1=h at hm
 unfold Ip at hm
 try dsimp only at hm
 refine Qh<|qs 5 rfl<|qn 2 rfl<|qv rfl (Br (a:=a2) (b:=a2) rfl rfl)<|qm rfl ?_
 refine qv rfl (Qnf (c:=a2*a2) (d:=p0) rfl rfl)<|Qa<|Zy hm rfl (fun c1 hm=>?_) (fun c1 hm=>?_)
 · refine Zd<|Xh<|Xh<|Zc<|Xa<|qs 3 rfl ?_
   refine qm rfl<|qv rfl (Qgq (c:=p0) (d:=2#64) rfl rfl)<|qm rfl<|Qa<|Qp ?_
   have X4:=((Gr.refl w).kz K1)
   cases hm
   exact⟨_,_,rfl,Qr rfl (Ql rfl),rfl,X4⟩
 refine qu<|Qh<|Xc<|qs 4 rfl<|qm rfl ?_
 refine qm rfl ?_
 obtain⟨x3,g,hm⟩:=Qc hm
 refine qv rfl (Hr (c:=p0) (d:=a2) rfl rfl g)<|qv rfl (Oz (c:=x3) (d:=0#64) rfl rfl)<|Qa<|Zq hm rfl (fun c2 hm=>?_) (fun c2 hm=>?_)
 · refine qs 1 rfl<|qm rfl<|Qa<|Qp<|Zk<|Xp ?_
   refine Xp<|Zk<|Xp ?_
   have X2:=((Gr.refl w).kz K1)
   cases hm
   exact⟨_,_,rfl,Qr rfl (Ql rfl),rfl,X2⟩
 refine Jb<|Xi<|Xa<|qg 3 rfl<|qm rfl<|qv rfl (Qnm (a:=a2) (b:=1#64) rfl rfl)<|qm rfl ?_
 refine Qj ?_
 have K_3:Kz [] w w1:=K1
 subst f
 exact⟨rfl,⟨n1,a2+1#64⟩,Qi,⟨hm,K_3⟩,Nat.lt_succ_self _⟩
theorem Quc {p0 p1 p2 r}(hm:Iq p0 p1 p2=some r){w:World}:
 Calls Tryz.prog 174 [wv p0,wv p1,wv p2].toArray w fun e w'=>∃ v,e=.returned v∧(v=wv r∧Gr w w'):=by
 unfold Iq at hm
 refine Xj 32 Tryz.func174 rfl rfl rfl<|qs 1 rfl<|qm rfl<|qd 3 rfl ?_
 refine qm rfl ?_
 obtain⟨x1,l,hm⟩:=Qc hm
 refine qv rfl (Hr (c:=1#64) (d:=p2) rfl rfl l)<|qm rfl<|qd 4 rfl<|qn 2 rfl ?_
 obtain⟨x2,m,hm⟩:=Qc hm
 refine qv rfl (Hr (c:=p0) (d:=p2) rfl rfl m)<|qm rfl<|Qa<|Qh<|Xc<|Zv (α:=Nat × BitVec 64 × BitVec 64 × BitVec 64) ([1,7,8]++rg 14 17) (fun⟨n1,a6,a7,a8⟩=>[(1,wv a6),(7,wv a7),(8,wv a8)]) (fun⟨n1,a6,a7,a8⟩ wr=>(Qs (Ry p2) n1 (a6,a7,a8)=some r)∧Kz [] w wr) (fun⟨n1,a6,a7,a8⟩=>n1) ⟨Qy,p1,x1,x2⟩ ?_ ?_ ?_
 · exact Qi
 · exact⟨hm,Kz.refl _ _⟩
 clear hm;rintro⟨n1,a6,a7,a8⟩ w1 ⟨hm,K1⟩
 have z1:=K1.size
 have hb:=Zu hm;clear hm;obtain⟨n1,rfl,hm⟩:=hb
 generalize f:Qs (Ry p2) n1=g at hm
 unfold Ry at hm
 try dsimp only at hm
 refine Qh<|qs 2 rfl<|qm rfl<|qv rfl (Bo (c:=a6) (d:=0#64) rfl rfl)<|Qa<|Zy hm rfl (fun c1 hm=>?_) (fun c1 hm=>?_)
 · refine Zd<|Xh<|Xh<|Zc<|Xa<|qs 2 rfl ?_
   refine qn 2 rfl<|Qa<|Qp ?_
   have X7:=((Gr.refl w).kz K1)
   cases hm
   exact⟨_,_,rfl,Qr rfl (Ql rfl),rfl,X7⟩
 refine qu<|Xc ?_
 have X2:=((Gr.refl w).kz K1)
 refine qj (β:=BitVec 64) ([7]++rg 16 8) (fun a9=>[(7,wv a9)]) (fun a9 wr=>(Ir p2 a6 a8 g a9=some r)∧Kz [] w1 wr) ?_ ?_
 · refine qs 3 rfl<|qm rfl ?_
   obtain⟨n,h,hm⟩:=Qc hm
   refine qv rfl (Hr (c:=a6) (d:=2#64) rfl rfl h)<|qv rfl (Oz (c:=n) (d:=1#64) rfl rfl)<|Qa<|Zy hm rfl (fun c2 hm=>?_) (fun c2 hm=>?_)
   · refine Jb ?_
     exact⟨rfl,a7,Qi,hm,Qw⟩
   refine qg 6 rfl<|qn 2 rfl<|qv rfl (Br (a:=a7) (b:=a8) rfl rfl)<|qm rfl ?_
   obtain⟨o,i,hm⟩:=Qc hm
   refine qv rfl (Hr (c:=a7*a8) (d:=p2) rfl rfl i)<|qm rfl<|Qj ?_
   exact⟨rfl,o,Qi,hm,Qw⟩
 clear hm;rintro a9 w2 ⟨hm,K2⟩
 have z3:=K2.size
 unfold Ir at hm
 refine qs 6 rfl<|qn 2 rfl<|qv rfl (Br (a:=a8) (b:=a8) rfl rfl)<|qm rfl ?_
 obtain⟨p,j,hm⟩:=Qc hm
 refine qv rfl (Hr (c:=a8*a8) (d:=p2) rfl rfl j)<|qm rfl<|Qa<|qg 3 rfl<|qm rfl ?_
 obtain⟨q,k,hm⟩:=Qc hm
 refine qv rfl (Qxb (c:=a6) (d:=2#64) rfl rfl k)<|qm rfl<|Qj<|Xi ?_
 have K_4:Kz [] w w2:=(K1.kz K2)
 subst f
 exact⟨rfl,⟨n1,q,a9,p⟩,Qi,⟨hm,K_4⟩,Nat.lt_succ_self _⟩
theorem Qud {p0 r}(hm:It p0=some r){w:World}:
 Calls Tryz.prog 132 [.agg (Xz.cs p0).toArray].toArray w fun e w'=>∃ v,e=.returned v∧(v=.bool r∧Gr w w'):=by
 unfold It at hm
 refine Xj 52 Tryz.func132 rfl rfl rfl<|qs 2 rfl<|qe rfl (Xq (cs:=Xz.cs p0) rfl rfl) ?_
 rintro _ w1 ⟨b1,rfl,n,f,G1⟩
 have z1:=G1.size
 have o:=f.lt
 refine qm rfl<|Qa<|Qh ?_
 have X3:=((Gr.refl w).trans G1)
 refine qj (β:=Bool) (rg 3 29) (fun a1=>[(31,.bool a1)]) (fun a1 wr=>(Sl p0 a1=some r)∧Kz [] w1 wr) ?_ ?_
 · refine qg 29 rfl<|qv rfl (Qg Gq rfl)<|qv rfl (Qf (v:=wv p0.P) Kv rfl f rfl)<|qv rfl (Bo (c:=p0.P) (d:=1048575#64) rfl rfl)<|Zm hm rfl (Qt rfl) (fun c4 hm=>?_) (fun c4 hm=>?_)
   · refine qn 7 rfl ?_
     refine qn 7 rfl ?_
     refine qn 7 rfl ?_
     refine qn 4 rfl<|Qj ?_
     exact⟨rfl,true,Qi,hm,Qw⟩
   refine qv rfl (Qg Gq rfl)<|qv rfl (Qf (v:=wv p0.P) Kv rfl f rfl) ?_
   obtain⟨x3,i,hm⟩:=Qc hm
   refine qe rfl (eC Qib rfl (Ql3 i)) ?_
   rintro _ w4 ⟨rfl,G4⟩
   have p:=G4.size
   refine qv rfl (Zr rfl)<|qm rfl<|Hm hm rfl (Qt rfl) (fun c5 hm=>?_) (fun c5 hm=>?_)
   · refine qn 7 rfl ?_
     refine qn 7 rfl ?_
     refine qn 5 rfl<|Qj ?_
     exact⟨rfl,true,Qi,hm,(Qw.gr G4)⟩
   refine qv rfl (Qg Gs rfl) ?_
   have g:=(f.gr G4)
   refine qv rfl (Qf (v:=wv p0.Q) Kv rfl g rfl)<|qv rfl (Bo (c:=p0.Q) (d:=1048575#64) rfl rfl)<|qm rfl<|Zm hm rfl (Qt rfl) (fun c6 hm=>?_) (fun c6 hm=>?_)
   · refine qn 7 rfl ?_
     refine qn 7 rfl ?_
     refine Qj ?_
     exact⟨rfl,true,Qi,hm,(Qw.gr G4)⟩
   refine qv rfl (Qg Gs rfl)<|qv rfl (Qf (v:=wv p0.Q) Kv rfl g rfl) ?_
   obtain⟨x4,j,hm⟩:=Qc hm
   refine qe rfl (eC Qib rfl (Ql3 j)) ?_
   rintro _ w5 ⟨rfl,G5⟩
   have q:=G5.size
   refine qv rfl (Zr rfl)<|qm rfl<|Hm hm rfl (Qt rfl) (fun c7 hm=>?_) (fun c7 hm=>?_)
   · refine qn 7 rfl ?_
     refine qm rfl<|Qj ?_
     exact⟨rfl,true,Qi,hm,((Qw.gr G4).gr G5)⟩
   refine qv rfl (Qg Gq rfl) ?_
   have h:=(g.gr G5)
   refine qv rfl (Qf (v:=wv p0.P) Kv rfl h rfl)<|qv rfl (Qnn (a:=p0.P) (b:=1#64) rfl rfl)<|qv rfl (Qg Gs rfl)<|qv rfl (Qf (v:=wv p0.Q) Kv rfl h rfl) ?_
   obtain⟨x5,k,hm⟩:=Qc hm
   refine qv rfl (Hr (c:=p0.P-1#64) (d:=p0.Q) rfl rfl k)<|qv rfl (Qgt (c:=x5) (d:=0#64) rfl rfl)<|qm rfl<|Qj ?_
   exact⟨rfl,(decide (x5≠0#64)),Qi,hm,((Qw.gr G4).gr G5)⟩
 clear hm;rintro a1 w2 ⟨hm,K2⟩
 have z4:=K2.size
 unfold Sl at hm
 refine Zh hm rfl (fun c1 hm=>?_) (fun c1 hm=>?_)
 · refine qs 1 rfl<|qm rfl<|qb ?_
   have X5:=(X3.kz K2)
   cases hm
   exact⟨_,_,rfl,Qr rfl (Ql rfl),rfl,X5⟩
 refine qu<|qs 21 rfl<|qv rfl (Qg Me rfl) ?_
 have B6:=(f.kz K2)
 refine qv rfl (Qf (v:=wv p0.G) Kv rfl B6 rfl)<|qv rfl (Qgq (c:=p0.G) (d:=2#64) rfl rfl)<|Jo hm rfl (Qt rfl) (fun c2 hm=>?_) (fun c2 hm=>?_)
 · refine qn 7 rfl ?_
   refine qn 7 rfl ?_
   refine qn 3 rfl<|Qa<|Qp ?_
   have l:=(X3.kz K2)
   cases hm
   exact⟨_,_,rfl,Qr rfl (Ql rfl),rfl,l⟩
 refine qv rfl (Qg Me rfl)<|qv rfl (Qf (v:=wv p0.G) Kv rfl B6 rfl)<|qv rfl (Qg Gq rfl)<|qv rfl (Qf (v:=wv p0.P) Kv rfl B6 rfl)<|qv rfl (Qgs (c:=p0.G) (d:=p0.P) rfl rfl)<|qm rfl<|Jo hm rfl (Qt rfl) (fun c3 hm=>?_) (fun c3 hm=>?_)
 · refine qn 7 rfl ?_
   refine qn 3 rfl<|Qa<|Qp ?_
   have X9:=(X3.kz K2)
   cases hm
   exact⟨_,_,rfl,Qr rfl (Ql rfl),rfl,X9⟩
 refine qv rfl (Qg Me rfl)<|qv rfl (Qf (v:=wv p0.G) Kv rfl B6 rfl)<|qv rfl (Qg Gs rfl)<|qv rfl (Qf (v:=wv p0.Q) Kv rfl B6 rfl)<|qv rfl (Qg Gq rfl)<|qv rfl (Qf (v:=wv p0.P) Kv rfl B6 rfl) ?_
 obtain⟨x2,m,hm⟩:=Qc hm
 refine qe rfl (eC Qpi rfl (Quc m)) ?_
 rintro _ w3 ⟨rfl,G3⟩
 have z7:=G3.size
 refine qv rfl (Oz (c:=x2) (d:=1#64) rfl rfl)<|qn 2 rfl<|Qa<|Qp ?_
 have X8:=((X3.kz K2).trans G3)
 cases hm
 exact⟨_,_,rfl,Qr rfl (Ql rfl),rfl,X8⟩
theorem Qum {p0 r}(hm:Sp p0=some r){w:World}:
 Calls Tryz.prog 81 [.agg (Qo.cs p0).toArray].toArray w fun e w'=>∃ v,e=.returned v∧(v=.bool r∧Gr w w'):=by
 unfold Sp at hm
 refine Xj 43 Tryz.func81 rfl rfl rfl<|qs 2 rfl<|qe rfl (Xq (cs:=Qo.cs p0) rfl rfl) ?_
 rintro _ w1 ⟨b1,rfl,i,f,G1⟩
 have z1:=G1.size
 have j:=f.lt
 refine qm rfl<|Qa<|Qh ?_
 have X3:=((Gr.refl w).trans G1)
 refine qj (β:=Bool) (rg 3 29) (fun a1=>[(31,.bool a1)]) (fun a1 wr=>(Np p0 a1=some r)∧Kz [] w1 wr) ?_ ?_
 · refine qg 29 rfl<|qv rfl (Qg Kj rfl)<|qv rfl (Qf (v:=bv p0.Kind) Zb rfl f rfl)<|qv rfl (Bp (p:=p0.Kind) (q:=4#8) rfl rfl)<|Zm hm rfl (Qt rfl) (fun c2 hm=>?_) (fun c2 hm=>?_)
   · refine qn 7 rfl ?_
     refine qn 7 rfl ?_
     refine qn 7 rfl ?_
     refine qn 4 rfl<|Qj ?_
     exact⟨rfl,true,Qi,hm,Qw⟩
   refine qv rfl (Qg Ji rfl)<|qv rfl (Qf (v:=.int .i64 p0.Depth) Qe rfl f rfl)<|qv rfl (Zo (a:=p0.Depth) (b:=0) rfl rfl)<|qm rfl<|Zm hm rfl (Qt rfl) (fun c3 hm=>?_) (fun c3 hm=>?_)
   · refine qn 7 rfl ?_
     refine qn 7 rfl ?_
     refine qn 6 rfl<|Qj ?_
     exact⟨rfl,true,Qi,hm,Qw⟩
   refine qv rfl (Qg Ji rfl)<|qv rfl (Qf (v:=.int .i64 p0.Depth) Qe rfl f rfl)<|qv rfl (Ky (a:=p0.Depth) (b:=6) rfl rfl)<|qm rfl<|Zm hm rfl (Qt rfl) (fun c4 hm=>?_) (fun c4 hm=>?_)
   · refine qn 7 rfl ?_
     refine qn 7 rfl ?_
     refine qm rfl<|Qj ?_
     exact⟨rfl,true,Qi,hm,Qw⟩
   refine qv rfl (Qg Tl rfl)<|qv rfl (Qf (v:=.int .i64 p0.Degree) Qe rfl f rfl)<|qv rfl (Zo (a:=p0.Degree) (b:=1) rfl rfl)<|qm rfl<|Zm hm rfl (Qt rfl) (fun c5 hm=>?_) (fun c5 hm=>?_)
   · refine qn 7 rfl ?_
     refine qn 3 rfl<|Qj ?_
     exact⟨rfl,true,Qi,hm,Qw⟩
   refine qv rfl (Qg Tl rfl)<|qv rfl (Qf (v:=.int .i64 p0.Degree) Qe rfl f rfl)<|qv rfl (Ky (a:=p0.Degree) (b:=8) rfl rfl)<|qm rfl<|Zm hm rfl (Qt rfl) (fun c6 hm=>?_) (fun c6 hm=>?_)
   · refine qn 5 rfl<|Qj ?_
     exact⟨rfl,true,Qi,hm,Qw⟩
   refine qv rfl (Qg Mf rfl)<|qv rfl (Eh (vs:=Xz.cs p0.Group) Tc rfl f rfl rfl) ?_
   obtain⟨x3,g,hm⟩:=Qc hm
   refine qe rfl (eC Qp7 rfl (Qud g)) ?_
   rintro _ w5 ⟨rfl,G5⟩
   have l:=G5.size
   refine qv rfl (Zr rfl)<|qm rfl<|Qj ?_
   exact⟨rfl,(!x3),Qi,hm,(Qw.gr G5)⟩
 clear hm;rintro a1 w2 ⟨hm,K2⟩
 have z4:=K2.size
 unfold Np at hm
 refine Zh hm rfl (fun c1 hm=>?_) (fun c1 hm=>?_)
 · refine qs 1 rfl<|qm rfl<|qb ?_
   have X5:=(X3.kz K2)
   cases hm
   exact⟨_,_,rfl,Qr rfl (Ql rfl),rfl,X5⟩
 refine qu<|Qh<|dw [([])] [] (.leaf [(0,10),(1,10),(2,10),(3,10),(4,10),(6,10),(7,10),(5,0),(8,10),(9,10),(10,10),(11,10)]) ?_
 intro w3 G3 m
 refine Jp<|dh 0 rfl rfl (fun w hS=>Qg Mf rfl)<|dh 0 rfl rfl (fun w hS=>Qg Gs rfl) ?_
 have B6:=((f.kz K2).gr G3)
 refine dh 0 rfl rfl (fun w hS=>Qf (v:=wv p0.Group.Q) Kv rfl (Bx.kp B6 hS) rfl)<|dh 0 rfl rfl (fun w hS=>Qg Ji rfl)<|dh 0 rfl rfl (fun w hS=>Qf (v:=.int .i64 p0.Depth) Qe rfl (Bx.kp B6 hS) rfl)<|dh 0 rfl rfl (fun w hS=>Qg Tl rfl)<|dh 0 rfl rfl (fun w hS=>Qf (v:=.int .i64 p0.Degree) Qe rfl (Bx.kp B6 hS) rfl) ?_
 obtain⟨x2,h,hm⟩:=Qc hm
 refine qz [] rfl (eC Dq rfl (Dz h)) ⟨fun _=>Qn,trivial⟩ ?_
 rintro _ w4 ⟨rfl,G4⟩
 have z7:=G4.size
 refine kG G4 ?_
 have S8:=((Kp.refl ([]) w3).gr G4)
 refine qh 0 rfl rfl S8 (fun w hS=>Xn (k:=.i64) (a:=x2) (b:=p0.Degree) rfl rfl)<|qh 0 rfl rfl S8 (fun w hS=>Ef Qhs rfl)<|qh 0 rfl rfl S8 (fun w hS=>Bo (c:=p0.Group.Q) (d:=wd (Qb (x2+p0.Degree))) rfl rfl)<|dn 0 rfl rfl S8<|Qa<|Qp ?_
 have X9:=(((X3.kz K2).trans G3).trans G4)
 cases hm
 exact⟨_,_,rfl,Qr rfl (Ql rfl),rfl,X9⟩
theorem Ql7 {p0 p1 r}(hm:Ob p0 p1=some r){w:World}:
 Calls Tryz.prog 175 [.int .i64 p0,.int .i64 p1].toArray w fun e w'=>∃ v,e=.returned v∧(∃ ur0_s zr0_s gr0_s,v=ur0_s∧Qk w' zr0_s gr0_s 3 1 ur0_s (r.map ic)∧Xb (zr0_s=0∨w.heap.size≤gr0_s)∧Gr w w'):=by
 unfold Ob at hm
 refine Xj 19 Tryz.func175 rfl rfl rfl<|qs 1 rfl<|qm rfl<|qd 1 rfl ?_
 refine qm rfl<|Qa<|Qh<|Xc<|Zv (α:=Nat × Int × List Int × Value × Nat × Nat) ([1]++rg 5 10) (fun⟨n1,a4,a5,vy6,zy6,gy6⟩=>[(1,.int .i64 a4),(5,vy6)]) (fun⟨n1,a4,a5,vy6,zy6,gy6⟩ wr=>(Qs (Bb p0) n1 (a4,a5)=some r)∧Qk wr zy6 gy6 3 1 vy6 (a5.map ic)∧Xb (zy6=0∨w.heap.size≤gy6)∧Kz [] w wr) (fun⟨n1,a4,a5,vy6,zy6,gy6⟩=>n1) ⟨Qy,p1,[],(.slice none 0 0),0,0⟩ ?_ ?_ ?_
 · exact Qi
 · exact⟨hm,(Kx _ 0 3 1),⟨(.inl rfl)⟩,Kz.refl _ _⟩
 clear hm;rintro⟨n1,a4,a5,vy6,zy6,gy6⟩ w1 ⟨hm,d,k,K1⟩
 have z1:=K1.size
 have M:=d.lth
 have hb:=Zu hm;clear hm;obtain⟨n1,rfl,hm⟩:=hb
 generalize f:Qs (Bb p0) n1=J at hm
 unfold Bb at hm
 try dsimp only at hm
 refine Qh<|qs 3 rfl<|qn 2 rfl<|qv rfl (Ke (a:=a4) (b:=p0) rfl rfl)<|Qa ?_
 refine Zq hm rfl (fun c1 hm=>?_) (fun c1 hm=>?_)
 · refine qu<|Xc<|qs 5 rfl<|qm rfl<|qe rfl (Kt [a4] ic Gi rfl rfl (Vj rfl) rfl rfl rfl) ?_
   rintro N w2 ⟨n,K,g,G2⟩
   have z3:=G2.size
   have O:=g.lth
   refine qm rfl ?_
   have B5:=(d.gr G2)
   obtain⟨l7,o,hm⟩:=Qc hm
   refine qe rfl (Ha (l:=[a4]) (m:=a5) (c:=ic) Fj rfl rfl g (Qk.rd B5) o (by decide)) ?_
   rintro p w3 ⟨q,s,t,h,P,u⟩
   have z6:=h.size
   refine qm rfl<|Qa<|qg 3 rfl<|qm rfl ?_
   obtain⟨x8,y,hm⟩:=Qc hm
   refine qv rfl (Qd9 (a:=a4) (b:=2) rfl rfl y)<|qm rfl<|Qj<|Xi ?_
   have K_7:Kz [] w w3:=((K1.gr G2).ka h (Qd ((.inr Qn):1=0∨w.heap.size≤n)))
   subst f
   exact⟨rfl,⟨n1,x8,l7,p,q,s⟩,Qi,⟨hm,t,⟨(Kc (A:=(fun x=>w.heap.size≤x)) u (.inr Qn))⟩,K_7⟩,Nat.lt_succ_self _⟩
 refine Zd<|Xh<|Xh<|Zc<|Xa<|qs 5 rfl ?_
 refine qm rfl<|qe rfl (Kt [p0] ic Gi rfl rfl (Vj rfl) rfl rfl rfl) ?_
 rintro Q w4 ⟨z,L,i,G4⟩
 have z8:=G4.size
 have R:=i.lth
 refine qm rfl ?_
 have B:=(d.gr G4)
 obtain⟨l9,C,hm⟩:=Qc hm
 refine qe rfl (Ha (l:=[p0]) (m:=a5) (c:=ic) Fj rfl rfl i (Qk.rd B) C (by decide)) ?_
 rintro D w5 ⟨E,F,G,j,S,H⟩
 have T:=j.size
 refine qm rfl<|Qa<|Qp ?_
 have I:=((((Gr.refl w).kz K1).trans G4).ka j (Qd ((.inr Qn):1=0∨w.heap.size≤z)))
 cases hm
 exact⟨_,_,rfl,Qr rfl (Ql rfl),D,E,F,rfl,G,⟨(Kc (A:=(fun x=>w.heap.size≤x)) H (.inr Qn))⟩,I⟩
theorem Ql6 {p0 p1 r}(hm:Ud p0 p1=some r){w:World}:
 Calls Tryz.prog 183 [.int .i64 p0,.int .i64 p1].toArray w fun e w'=>∃ v,e=.returned v∧(v=.bool r∧Gr w w'):=by
 unfold Ud at hm
 refine Xj 14 Tryz.func183 rfl rfl rfl<|qs 1 rfl<|qm rfl<|qd 10 rfl ?_
 refine qm rfl<|qv rfl (Yq (a:=p1) (b:=1) rfl rfl)<|Jo hm rfl (Qt rfl) (fun c1 hm=>?_) (fun c1 hm=>?_)
 · refine qn 7 rfl ?_
   refine Qa<|Qp ?_
   cases hm
   exact⟨_,_,rfl,Qr rfl (Ql rfl),rfl,(Gr.refl w)⟩
 refine qn 2 rfl ?_
 obtain⟨x1,c,hm⟩:=Qc hm
 refine qe rfl (eC Dq rfl (Dz c)) ?_
 rintro _ w1 ⟨rfl,G1⟩
 have z1:=G1.size
 refine qv rfl (Kb (k:=.i64) (a:=2) (b:=x1) rfl rfl)<|qv rfl (Zo (a:=p1) (b:=Qb (2*x1)) rfl rfl)<|qn 2 rfl<|Qa<|Qp ?_
 have X2:=((Gr.refl w).trans G1)
 cases hm
 exact⟨_,_,rfl,Qr rfl (Ql rfl),rfl,X2⟩
theorem Ql4 {p0 p1 r}(hm:Iu p0 p1=some r){w:World}:
 Calls Tryz.prog 182 [.int .i64 p0,.int .i64 p1].toArray w fun e w'=>∃ v,e=.returned v∧(v=.bool r∧Gr w w'):=by
 unfold Iu at hm
 refine Xj 13 Tryz.func182 rfl rfl rfl<|qs 1 rfl<|qm rfl<|Qa<|Qh<|Xc ?_
 refine Zv (α:=Nat × Int) ([0]++rg 5 5) (fun⟨n1,a2⟩=>[(0,.int .i64 a2)]) (fun⟨n1,a2⟩ wr=>(Qs (My p1) n1 a2=some r)∧Kz [] w wr) (fun⟨n1,a2⟩=>n1) ⟨Qy,p0⟩ ?_ ?_ ?_
 · exact Qi
 · exact⟨hm,Kz.refl _ _⟩
 clear hm;rintro⟨n1,a2⟩ w1 ⟨hm,K1⟩
 have z1:=K1.size
 have hb:=Zu hm;clear hm;obtain⟨n1,rfl,hm⟩:=hb
 generalize c:Qs (My p1) n1=f at hm
 unfold My at hm
 try dsimp only at hm
 refine Qh<|qs 3 rfl<|qn 2 rfl<|qv rfl (Ky (a:=a2) (b:=p1) rfl rfl)<|Qa ?_
 refine Zq hm rfl (fun c1 hm=>?_) (fun c1 hm=>?_)
 · refine qu<|Xc<|qg 3 rfl<|qm rfl ?_
   obtain⟨x3,d,hm⟩:=Qc hm
   refine qv rfl (Qd9 (a:=a2) (b:=2) rfl rfl d)<|qm rfl<|Qj<|Xi ?_
   have K_2:Kz [] w w1:=K1
   subst c
   exact⟨rfl,⟨n1,x3⟩,Qi,⟨hm,K_2⟩,Nat.lt_succ_self _⟩
 refine Zd<|Xh<|Xh<|Zc<|Xa<|qs 4 rfl ?_
 refine qn 2 rfl<|qv rfl (Xv (a:=a2) (b:=p1) rfl rfl)<|qm rfl<|Qa<|Qp ?_
 have X3:=((Gr.refl w).kz K1)
 cases hm
 exact⟨_,_,rfl,Qr rfl (Ql rfl),rfl,X3⟩
theorem Quj {p0 r}(hm:Oa p0=some r){w:World}:
 Calls Tryz.prog 198 [.int .i64 p0].toArray w fun e w'=>∃ v,e=.returned v∧(v=.int .i64 r∧Gr w w'):=by
 unfold Oa at hm
 refine Xj 11 Tryz.func198 rfl rfl rfl<|qs 1 rfl<|qm rfl<|qd 1 rfl ?_
 refine qm rfl<|Qa<|Qh<|Xc<|Zv (α:=Nat × Int × Int) ([0]++rg 3 7) (fun⟨n1,a3,a4⟩=>[(0,.int .i64 a3),(3,.int .i64 a4)]) (fun⟨n1,a3,a4⟩ wr=>(Qs (Uc) n1 (a3,a4)=some r)∧Kz [] w wr) (fun⟨n1,a3,a4⟩=>n1) ⟨Qy,p0,0⟩ ?_ ?_ ?_
 · exact Qi
 · exact⟨hm,Kz.refl _ _⟩
 clear hm;rintro⟨n1,a3,a4⟩ w1 ⟨hm,K1⟩
 have z1:=K1.size
 have hb:=Zu hm;clear hm;obtain⟨n1,rfl,hm⟩:=hb
 generalize c:Qs (Uc) n1=f at hm
 unfold Uc at hm
 try dsimp only at hm
 refine Qh<|qs 2 rfl<|qm rfl<|qv rfl (Ky (a:=a3) (b:=1) rfl rfl)<|Qa<|Zy hm rfl (fun c1 hm=>?_) (fun c1 hm=>?_)
 · refine Zd<|Xh<|Xh<|Zc<|Xa<|qs 2 rfl ?_
   refine qn 2 rfl<|Qa<|Qp ?_
   have X3:=((Gr.refl w).kz K1)
   cases hm
   exact⟨_,_,rfl,Qr rfl (Ql rfl),rfl,X3⟩
 refine qu<|Xc<|qs 3 rfl<|qm rfl ?_
 obtain⟨x5,d,hm⟩:=Qc hm
 refine qv rfl (Qd9 (a:=a3) (b:=2) rfl rfl d)<|qm rfl<|Qa<|qg 3 rfl<|qm rfl<|qv rfl (Xn (k:=.i64) (a:=a4) (b:=1) rfl rfl)<|qm rfl ?_
 refine Qj<|Xi ?_
 have K_2:Kz [] w w1:=K1
 subst c
 exact⟨rfl,⟨n1,x5,Qb (a4+1)⟩,Qi,⟨hm,K_2⟩,Nat.lt_succ_self _⟩
theorem Ql8 {p0 p1 r}(hm:Uf p0 p1=some r){w:World}:
 Calls Tryz.prog 184 [.int .i64 p0,.int .i64 p1].toArray w fun e w'=>∃ v,e=.returned v∧(v=.bool r∧Gr w w'):=by
 unfold Uf at hm
 refine Xj 11 Tryz.func184 rfl rfl rfl<|qs 1 rfl<|qm rfl<|qd 7 rfl ?_
 refine qm rfl ?_
 obtain⟨x1,c,hm⟩:=Qc hm
 refine qe rfl (eC Qpq rfl (Quj c)) ?_
 rintro _ w1 ⟨rfl,G1⟩
 have z1:=G1.size
 refine qm rfl ?_
 obtain⟨x2,d,hm⟩:=Qc hm
 refine qe rfl (eC Qij rfl (Ql9 d)) ?_
 rintro _ w2 ⟨rfl,G2⟩
 have z2:=G2.size
 obtain⟨x3,f,hm⟩:=Qc hm
 refine qv rfl (Qda (a:=x1) (b:=x2) rfl rfl f)<|qv rfl (Xv (a:=x3) (b:=0) rfl rfl)<|qm rfl<|Qa<|Qp ?_
 have X3:=(((Gr.refl w).trans G1).trans G2)
 cases hm
 exact⟨_,_,rfl,Qr rfl (Ql rfl),rfl,X3⟩
theorem Qla {p0 p1 p2 r}(hm:Sn p0 p1 p2=some r){w:World}:
 Calls Tryz.prog 142 [.int .i64 p0,.int .i64 p1,.int .i64 p2].toArray w fun e w'=>∃ v,e=.returned v∧(v=.int .i64 r∧Gr w w'):=by
 unfold Sn at hm
 refine Xj 29 Tryz.func142 rfl rfl rfl<|qs 1 rfl<|qm rfl<|qd 4 rfl ?_
 refine qn 2 rfl ?_
 obtain⟨x1,p,hm⟩:=Qc hm
 refine qe rfl (eC Qic rfl (Ql7 p)) ?_
 rintro g w1 ⟨_,h,j,rfl,d,m,G1⟩
 have z1:=G1.size
 have y:=d.lth
 refine qm rfl<|Qa<|Qh<|qs 1 rfl<|qm rfl<|Qa ?_
 refine Xc ?_
 have X3:=((Gr.refl w).trans G1)
 refine Zv (α:=Nat × Int) ([6,8]++rg 12 17) (fun⟨n1,a3⟩=>[(6,.int .i64 0),(8,.int .i64 a3)]) (fun⟨n1,a3⟩ wr=>(Qs (Bd p0 x1) n1 a3=some r)∧Kz [] w1 wr) (fun⟨n1,a3⟩=>n1) ⟨Qy,1⟩ ?_ ?_ ?_
 · exact Qi
 · exact⟨hm,Kz.refl _ _⟩
 clear hm;rintro⟨n1,a3⟩ w2 ⟨hm,K2⟩
 have z4:=K2.size
 have hb:=Zu hm;clear hm;obtain⟨n1,rfl,hm⟩:=hb
 generalize f:Qs (Bd p0 x1) n1=x at hm
 unfold Bd at hm
 try dsimp only at hm
 refine Qh<|qs 5 rfl<|qn 2 rfl ?_
 have B5:=(d.kz K2)
 refine qv rfl (Vm (l:=x1) (c:=ic) Tryz.underlying30 rfl (Qk.rd B5))<|qv rfl (Js (k:=.i64) (a:=(x1.length:Int)) (b:=1) rfl rfl)<|qv rfl (Zo (a:=a3) (b:=Qb ((x1.length:Int)-1)) rfl rfl)<|Qa<|Zy hm rfl (fun c1 hm=>?_) (fun c1 hm=>?_)
 · refine Zd<|Xh<|Xh<|Zc<|Xa<|qs 1 rfl ?_
   refine qm rfl<|Qa<|Qp ?_
   have s:=(X3.kz K2)
   cases hm
   exact⟨_,_,rfl,Qr rfl (Ql rfl),rfl,s⟩
 refine qu<|Qh<|Xc<|qs 6 rfl<|qm rfl ?_
 refine qn 2 rfl ?_
 obtain⟨y4,n,hm⟩:=Qc hm
 refine qv rfl (Jl (i:=a3) Tryz.underlying30 (Qe).siz rfl (Qk.rd B5) rfl n)<|qv rfl (Zt (q:=0) (u:=.int .i64 y4) Qe rfl (Qk.rd B5) n (by first|rfl|omega) rfl) ?_
 obtain⟨x5,t,hm⟩:=Qc hm
 refine qe rfl (eC Qih rfl (Ql8 t)) ?_
 rintro _ w3 ⟨rfl,G3⟩
 have z6:=G3.size
 refine Qa<|Wz hm rfl (fun c2 hm=>?_) (fun c2 hm=>?_)
 · refine Jb<|Xi<|Xa<|qg 3 rfl<|qm rfl<|qv rfl (Xn (k:=.i64) (a:=a3) (b:=1) rfl rfl)<|qm rfl ?_
   refine Qj ?_
   have K_9:Kz [] w1 w3:=(K2.gr G3)
   subst f
   exact⟨rfl,⟨n1,Qb (a3+1)⟩,Qi,⟨hm,K_9⟩,Nat.lt_succ_self _⟩
 refine qs 5 rfl<|qn 2 rfl ?_
 obtain⟨y6,o,hm⟩:=Qc hm
 have B7:=(B5.gr G3)
 refine qv rfl (Jl (i:=a3) Tryz.underlying30 (Qe).siz rfl (Qk.rd B7) rfl o)<|qv rfl (Zt (q:=0) (u:=.int .i64 y6) Qe rfl (Qk.rd B7) o (by first|rfl|omega) rfl)<|qm rfl<|Qa<|Qp<|Zk<|Xp ?_
 refine Xp<|Zk<|Xp ?_
 have X8:=((X3.kz K2).trans G3)
 cases hm
 exact⟨_,_,rfl,Qr rfl (Ql rfl),rfl,X8⟩
theorem Ql5 {p0 p1 r}(hm:Sm p0 p1=some r){w:World}:
 Calls Tryz.prog 140 [.agg (Qo.cs p0).toArray,.agg (Qm.cs p1).toArray].toArray w fun e w'=>∃ v,e=.returned v∧(v=.bool r∧Gr w w'):=by
 unfold Sm at hm
 refine Xj 64 Tryz.func140 rfl rfl rfl<|qs 3 rfl<|qe rfl (Xq (cs:=Qo.cs p0) rfl rfl) ?_
 rintro _ w1 ⟨b1,rfl,C,i,G1⟩
 have z1:=G1.size
 have E:=i.lt
 refine qe rfl (Xq (cs:=Qm.cs p1) rfl rfl) ?_
 rintro _ w2 ⟨b2,rfl,D,d,G2⟩
 have z3:=G2.size
 have F:=d.lt
 refine qm rfl<|Qa<|Qh<|qs 6 rfl<|qv rfl (Qg Ji rfl) ?_
 have B5:=(i.gr G2)
 refine qv rfl (Qf (v:=.int .i64 p0.Depth) Qe rfl B5 rfl)<|qv rfl (Qg Tg rfl)<|qv rfl (Qf (v:=.int .i64 p1.Node) Qe rfl d rfl) ?_
 obtain⟨x1,l,hm⟩:=Qc hm
 refine qe rfl (eC Qig rfl (Ql6 l)) ?_
 rintro _ w3 ⟨rfl,G3⟩
 have z6:=G3.size
 refine qv rfl (Zr rfl)<|Qa<|Zh hm rfl (fun c1 hm=>?_) (fun c1 hm=>?_)
 · refine qs 1 rfl<|qm rfl<|qb ?_
   have Y1:=Gr.trans (Gr.trans G1 G2) G3
   have X7:=((Gr.refl w).trans Y1)
   cases hm
   exact⟨_,_,rfl,Qr rfl (Ql rfl),rfl,X7⟩
 refine qu<|Qh<|qs 3 rfl<|qv rfl (Qg Kj rfl) ?_
 have B8:=(B5.gr G3)
 refine qv rfl (Qf (v:=bv p0.Kind) Zb rfl B8 rfl)<|qv rfl (Jz (p:=p0.Kind) (q:=1#8) rfl rfl)<|Qa<|Zq hm rfl (fun c2 hm=>?_) (fun c2 hm=>?_)
 · refine qs 4 rfl<|qv rfl (Qg Lo rfl) ?_
   have B9:=(d.gr G3)
   refine qv rfl (Qf (v:=.int .i64 p1.Minus) Qe rfl B9 rfl)<|qv rfl (Xv (a:=p1.Minus) (b:=0) rfl rfl)<|qm rfl<|qb ?_
   have Y2:=Gr.trans (Gr.trans G1 G2) G3
   have m:=((Gr.refl w).trans Y2)
   cases hm
   exact⟨_,_,rfl,Qr rfl (Ql rfl),rfl,m⟩
 refine qu<|Qh<|qs 3 rfl<|qv rfl (Qg Lo rfl) ?_
 have c:=(d.gr G3)
 refine qv rfl (Qf (v:=.int .i64 p1.Minus) Qe rfl c rfl)<|qv rfl (Xv (a:=p1.Minus) (b:=0) rfl rfl)<|Qa<|Zq hm rfl (fun c3 hm=>?_) (fun c3 hm=>?_)
 · refine qs 4 rfl<|qv rfl (Qg Tg rfl)<|qv rfl (Qf (v:=.int .i64 p1.Node) Qe rfl c rfl)<|qv rfl (Xv (a:=p1.Node) (b:=1) rfl rfl)<|qm rfl<|Qa ?_
   refine Qp<|Xp ?_
   have Y3:=Gr.trans (Gr.trans G1 G2) G3
   have n:=((Gr.refl w).trans Y3)
   cases hm
   exact⟨_,_,rfl,Qr rfl (Ql rfl),rfl,n⟩
 refine qu<|Qh ?_
 have Y4:=Gr.trans (Gr.trans G1 G2) G3
 have f:=((Gr.refl w).trans Y4)
 refine qj (β:=Bool) (rg 23 21) (fun a2=>[(43,.bool a2)]) (fun a2 wr=>(Ub p0 p1 a2=some r)∧Kz [] w3 wr) ?_ ?_
 · refine qg 21 rfl<|qv rfl (Qg Ji rfl)<|qv rfl (Qf (v:=.int .i64 p0.Depth) Qe rfl B8 rfl)<|qv rfl (Qg Lo rfl)<|qv rfl (Qf (v:=.int .i64 p1.Minus) Qe rfl c rfl) ?_
   obtain⟨x5,o,hm⟩:=Qc hm
   refine qe rfl (eC Qig rfl (Ql6 o)) ?_
   rintro _ w7 ⟨rfl,G7⟩
   have G:=G7.size
   refine qv rfl (Zr rfl)<|Hm hm rfl (Qt rfl) (fun c7 hm=>?_) (fun c7 hm=>?_)
   · refine qn 7 rfl ?_
     refine qn 7 rfl ?_
     refine Qj ?_
     exact⟨rfl,true,Qi,hm,(Qw.gr G7)⟩
   refine qv rfl (Qg Lo rfl) ?_
   have g:=(c.gr G7)
   refine qv rfl (Qf (v:=.int .i64 p1.Minus) Qe rfl g rfl)<|qv rfl (Qg Tg rfl)<|qv rfl (Qf (v:=.int .i64 p1.Node) Qe rfl g rfl)<|qv rfl (Xv (a:=p1.Minus) (b:=p1.Node) rfl rfl)<|qm rfl<|Zm hm rfl (Qt rfl) (fun c8 hm=>?_) (fun c8 hm=>?_)
   · refine qn 7 rfl ?_
     refine Qj ?_
     exact⟨rfl,true,Qi,hm,(Qw.gr G7)⟩
   refine qv rfl (Qg Lo rfl)<|qv rfl (Qf (v:=.int .i64 p1.Minus) Qe rfl g rfl)<|qv rfl (Qg Tg rfl)<|qv rfl (Qf (v:=.int .i64 p1.Node) Qe rfl g rfl) ?_
   obtain⟨x6,s,hm⟩:=Qc hm
   refine qe rfl (eC Qif rfl (Ql4 s)) ?_
   rintro _ w8 ⟨rfl,G8⟩
   have H:=G8.size
   refine qv rfl (Zr rfl)<|qm rfl<|Qj ?_
   exact⟨rfl,(!x6),Qi,hm,((Qw.gr G7).gr G8)⟩
 clear hm;rintro a2 w4 ⟨hm,K4⟩
 have I:=K4.size
 unfold Ub at hm
 refine Zh hm rfl (fun c4 hm=>?_) (fun c4 hm=>?_)
 · refine qs 1 rfl<|qm rfl<|qb ?_
   have t:=(f.kz K4)
   cases hm
   exact⟨_,_,rfl,Qr rfl (Ql rfl),rfl,t⟩
 refine qu<|qs 21 rfl<|qv rfl (Qg Kj rfl) ?_
 have h:=(B8.kz K4)
 refine qv rfl (Qf (v:=bv p0.Kind) Zb rfl h rfl)<|qv rfl (Jz (p:=p0.Kind) (q:=2#8) rfl rfl)<|Zm hm rfl (Qt rfl) (fun c5 hm=>?_) (fun c5 hm=>?_)
 · refine qn 7 rfl ?_
   refine qn 7 rfl ?_
   refine qn 3 rfl<|Qa<|Qp ?_
   have u:=(f.kz K4)
   cases hm
   exact⟨_,_,rfl,Qr rfl (Ql rfl),rfl,u⟩
 refine qv rfl (Qg Ji rfl)<|qv rfl (Qf (v:=.int .i64 p0.Depth) Qe rfl h rfl)<|qv rfl (Qg Tg rfl) ?_
 have j:=(c.kz K4)
 refine qv rfl (Qf (v:=.int .i64 p1.Node) Qe rfl j rfl) ?_
 obtain⟨x3,x,hm⟩:=Qc hm
 refine qe rfl (eC Qih rfl (Ql8 x)) ?_
 rintro _ w5 ⟨rfl,G5⟩
 have J:=G5.size
 refine qm rfl<|Hm hm rfl (Qt rfl) (fun c6 hm=>?_) (fun c6 hm=>?_)
 · refine qn 7 rfl ?_
   refine qn 3 rfl<|Qa<|Qp ?_
   have y:=((f.kz K4).trans G5)
   cases hm
   exact⟨_,_,rfl,Qr rfl (Ql rfl),rfl,y⟩
 refine qv rfl (Qg Ji rfl) ?_
 have z:=(h.gr G5)
 refine qv rfl (Qf (v:=.int .i64 p0.Depth) Qe rfl z rfl)<|qv rfl (Qg Tg rfl) ?_
 have k:=(j.gr G5)
 refine qv rfl (Qf (v:=.int .i64 p1.Node) Qe rfl k rfl)<|qv rfl (Qg Lo rfl)<|qv rfl (Qf (v:=.int .i64 p1.Minus) Qe rfl k rfl) ?_
 obtain⟨x4,A,hm⟩:=Qc hm
 refine qe rfl (eC Qi6 rfl (Qla A)) ?_
 rintro _ w6 ⟨rfl,G6⟩
 have K:=G6.size
 refine qv rfl (Xv (a:=x4) (b:=0) rfl rfl)<|qn 2 rfl<|Qa<|Qp ?_
 have B:=(((f.kz K4).trans G5).trans G6)
 cases hm
 exact⟨_,_,rfl,Qr rfl (Ql rfl),rfl,B⟩
theorem Qui {p0 p1 r}(hm:Qfs p0 p1=some r){w:World}:
 Calls Tryz.prog 133 [.agg (Qo.cs p0).toArray,.int .i64 p1].toArray w fun e w'=>∃ v,e=.returned v∧(∃ ur0_s zr0_s gr0_s,v=ur0_s∧Qk w' zr0_s gr0_s 137 2 ur0_s (r.map Qm.cs)∧Xb (zr0_s=0∨w.heap.size≤gr0_s)∧Gr w w'):=by
 unfold Qfs at hm
 refine Xj 71 Tryz.func133 rfl rfl rfl<|qs 2 rfl<|qe rfl (Xq (cs:=Qo.cs p0) rfl rfl) ?_
 rintro _ w1 ⟨b1,rfl,a2,X,G1⟩
 have z1:=G1.size
 have bh:=X.lt
 refine qm rfl<|qd 1 rfl<|qm rfl<|Qa<|Qh ?_
 refine qg 7 rfl<|qv rfl (Qg Ji rfl)<|qv rfl (Qf (v:=.int .i64 p0.Depth) Qe rfl X rfl) ?_
 obtain⟨x1,aB,hm⟩:=Qc hm
 refine qe rfl (eC Dq rfl (Dz aB)) ?_
 rintro _ w2 ⟨rfl,G2⟩
 have z3:=G2.size
 refine qm rfl<|qv rfl (Xn (k:=.i64) (a:=x1) (b:=p1) rfl rfl) ?_
 obtain⟨x2,aC,hm⟩:=Qc hm
 refine qe rfl (eC Qic rfl (Ql7 aC)) ?_
 rintro af w3 ⟨_,d,f,rfl,n,ag,G3⟩
 have z4:=G3.size
 have Y:=n.lth
 refine qm rfl<|Qa<|Qh<|qs 3 rfl<|qv rfl (Qg Kj rfl) ?_
 have B6:=((X.gr G2).gr G3)
 refine qv rfl (Qf (v:=bv p0.Kind) Zb rfl B6 rfl)<|qv rfl (Jz (p:=p0.Kind) (q:=1#8) rfl rfl)<|Qa<|Zq hm rfl (fun c1 hm=>?_) (fun c1 hm=>?_)
 · refine Qh<|qs 1 rfl<|qm rfl<|Qa<|Xc ?_
   have X7:=((((Gr.refl w).trans G1).trans G2).trans G3)
   refine Zv (α:=Nat × List Qm × Int × Value × Nat × Nat) ([5,7]++rg 20 14) (fun⟨n1,a6,a8,vy7,zy7,gy7⟩=>[(5,vy7),(7,.int .i64 a8)]) (fun⟨n1,a6,a8,vy7,zy7,gy7⟩ wr=>(Qs (Qcg x2) n1 (a6,a8)=some r)∧Qk wr zy7 gy7 137 2 vy7 (a6.map Qm.cs)∧Xb (zy7=0∨w3.heap.size≤gy7)∧Kz [] w3 wr) (fun⟨n1,a6,a8,vy7,zy7,gy7⟩=>n1) ⟨Qy,[],0,(.slice none 0 0),0,0⟩ ?_ ?_ ?_
   · exact Qi
   · exact⟨hm,(Kx _ 0 137 2),⟨(.inl rfl)⟩,Kz.refl _ _⟩
   clear hm;rintro⟨n1,a6,a8,vy7,zy7,gy7⟩ w4 ⟨hm,D,E,K4⟩
   have z8:=K4.size
   have bi:=D.lth
   have hb:=Zu hm;clear hm;obtain⟨n1,rfl,hm⟩:=hb
   generalize Z:Qs (Qcg x2) n1=a3 at hm
   unfold Qcg at hm
   try dsimp only at hm
   refine Qh<|qs 4 rfl<|qn 2 rfl ?_
   have aa:=(n.kz K4)
   refine qv rfl (Vm (l:=x2) (c:=ic) Tryz.underlying30 rfl (Qk.rd aa))<|qv rfl (Zo (a:=a8) (b:=(x2.length:Int)) rfl rfl)<|Qa<|Zy hm rfl (fun c2 hm=>?_) (fun c2 hm=>?_)
   · refine Zd<|Xh<|Xh<|Zc<|Xa<|qs 2 rfl ?_
     refine qn 2 rfl<|qb ?_
     have aD:=(X7.kz K4)
     cases hm
     exact⟨_,_,rfl,Qr rfl (Ql rfl),vy7,zy7,gy7,rfl,D,⟨(Xe (A:=(fun x=>w.heap.size≤x)) E)⟩,aD⟩
   refine qu<|Qh<|Xc<|qg 9 rfl<|qn 2 rfl ?_
   refine qm rfl ?_
   obtain⟨y9,ah,hm⟩:=Qc hm
   refine qv rfl (Jl (i:=a8) Tryz.underlying30 (Qe).siz rfl (Qk.rd aa) rfl ah)<|qv rfl (Zt (q:=0) (u:=.int .i64 y9) Qe rfl (Qk.rd aa) ah (by first|rfl|omega) rfl)<|qv rfl (Kl (cs:=Qm.cs (Qm.mk y9 0)) Dn rfl rfl)<|qe rfl (Kt [(Qm.mk y9 0)] Qm.cs Nz rfl rfl (Vj rfl) rfl rfl rfl) ?_
   rintro bj w5 ⟨bk,a4,ai,G5⟩
   have bm:=G5.size
   have a5:=ai.lth
   have aE:=(D.gr G5)
   obtain⟨aF,aj,hm⟩:=Qc hm
   refine qe rfl (Ha (l:=a6) (m:=[(Qm.mk y9 0)]) (c:=Qm.cs) Nw rfl rfl aE (Qk.rd ai) aj (by decide)) ?_
   rintro aG w6 ⟨aH,aI,aJ,ak,bo,aK⟩
   have bp:=ak.size
   refine qm rfl<|Qj<|Xi<|Xa<|qg 3 rfl<|qm rfl<|qv rfl (Xn (k:=.i64) (a:=a8) (b:=1) rfl rfl) ?_
   refine qm rfl<|Qj ?_
   have K_15:Kz [] w3 w6:=((K4.gr G5).ka ak (Qd (Xe (A:=(fun x=>w3.heap.size≤x)) E)))
   subst Z
   exact⟨rfl,⟨n1,aF,Qb (a8+1),aG,aH,aI⟩,Qi,⟨hm,aJ,⟨(Kc (A:=(fun x=>w3.heap.size≤x)) aK (Xe (A:=(fun x=>w3.heap.size≤x)) E))⟩,K_15⟩,Nat.lt_succ_self _⟩
 refine qu<|qs 5 rfl<|qm rfl<|qv rfl (Kl (cs:=Qm.cs (Qm.mk 1 0)) Dn rfl rfl)<|qe rfl (Kt [(Qm.mk 1 0)] Qm.cs Nz rfl rfl (Vj rfl) rfl rfl rfl) ?_
 rintro bq w7 ⟨al,a7,ab,G7⟩
 have br:=G7.size
 have am:=ab.lth
 obtain⟨aL,an,hm⟩:=Qc hm
 refine qe rfl (Ha (l:=([]:List Qm)) (m:=[(Qm.mk 1 0)]) (c:=Qm.cs) Nw rfl rfl (Kx _ 0 137 2) (Qk.rd ab) an (by decide)) ?_
 rintro aM w8 ⟨y,z,aN,K,bs,B⟩
 have bu:=K.size
 refine qm rfl<|Qa<|Qh<|qs 1 rfl<|qm rfl<|Qa ?_
 refine Xc ?_
 have ao:=((((((Gr.refl w).trans G1).trans G2).trans G3).trans G7).ka K)
 have aO:=((n.gr G7).ka K)
 have aP:=(ab.ka K)
 refine Zv (α:=Nat × List Qm × Int × Value × Nat × Nat) ([5,8,9,10]++rg 39 31) (fun⟨n2,H,g,vy16,zy16,gy16⟩=>[(5,vy16),(8,.int .i64 g)]) (fun⟨n2,H,g,vy16,zy16,gy16⟩ wr=>(Qs (Qch p0 x2) n2 (H,g)=some r)∧Qk wr zy16 gy16 137 2 vy16 (H.map Qm.cs)∧Xb (zy16=0∨(gy16=z∧y≠0)∨w8.heap.size≤gy16)∧Kz [(y,z)] w8 wr) (fun⟨n2,H,g,vy16,zy16,gy16⟩=>n2) ⟨Qy,aL,0,aM,y,z⟩ ?_ ?_ ?_
 · exact Qi
 · exact⟨hm,aN,⟨Qn⟩,Kz.refl _ _⟩
 clear hm;rintro⟨n2,H,g,vy16,zy16,gy16⟩ w9 ⟨hm,F,s,K9⟩
 have bw:=K9.size
 have a9:=F.lth
 have hb:=Zu hm;clear hm;obtain⟨n2,rfl,hm⟩:=hb
 generalize ac:Qs (Qch p0 x2) n2=P at hm
 unfold Qch at hm
 try dsimp only at hm
 refine Qh<|qs 4 rfl<|qn 2 rfl ?_
 have ap:=(aO.kz K9 (Qd ((Ki (Kc (A:=(fun x=>d=0∨x≠f)) B (.inl rfl) (fun x hx=>(Qd Y.o)))):d=0∨y=0∨f≠z)))
 refine qv rfl (Vm (l:=x2) (c:=ic) Tryz.underlying30 rfl (Qk.rd ap))<|qv rfl (Zo (a:=g) (b:=(x2.length:Int)) rfl rfl)<|Qa<|Zy hm rfl (fun c3 hm=>?_) (fun c3 hm=>?_)
 · refine Zd<|Xh<|Xh<|Zc<|Xa<|qs 2 rfl ?_
   refine qn 2 rfl<|Qa<|Qp ?_
   have aQ:=(ao.kz K9 (Qd (Kc (A:=(fun x=>w.heap.size≤x)) B (.inl rfl))))
   cases hm
   exact⟨_,_,rfl,Qr rfl (Ql rfl),vy16,zy16,gy16,rfl,F,⟨(Xu (A:=(fun x=>w.heap.size≤x)) s (Kc (A:=(fun x=>w.heap.size≤x)) B (.inl rfl)))⟩,aQ⟩
 refine qu<|Qh<|Xc<|qs 3 rfl<|qm rfl ?_
 refine qv rfl (Xn (k:=.i64) (a:=g) (b:=1) rfl rfl)<|qm rfl<|Qa<|Xc ?_
 have bx:=(ao.kz K9 (Qd (Kc (A:=(fun x=>w.heap.size≤x)) B (.inl rfl))))
 have bz:=(aP.kz K9 (Qd ((Ki (Kc (A:=(fun x=>1=0∨x≠al)) B (.inl rfl) (fun x hx=>(Qd am.o)))):1=0∨y=0∨al≠z)))
 refine Zv (α:=Nat × List Qm × Int × Value × Nat × Nat) ([5,9,10]++rg 47 23) (fun⟨n3,C,t,vy22,zy22,gy22⟩=>[(5,vy22),(9,.int .i64 t)]) (fun⟨n3,C,t,vy22,zy22,gy22⟩ wr=>(Qs (Qci p0 x2 g P) n3 (C,t)=some r)∧Qk wr zy22 gy22 137 2 vy22 (C.map Qm.cs)∧Xb (zy22=0∨(gy22=gy16∧zy16≠0)∨w9.heap.size≤gy22)∧Kz [(zy16,gy16)] w9 wr) (fun⟨n3,C,t,vy22,zy22,gy22⟩=>n3) ⟨Qy,H,Qb (g+1),vy16,zy16,gy16⟩ ?_ ?_ ?_
 · exact Qi
 · exact⟨hm,F,⟨Qn⟩,Kz.refl _ _⟩
 clear hm;rintro⟨n3,C,t,vy22,zy22,gy22⟩ aR ⟨hm,h,j,I⟩
 have bA:=I.size
 have Q:=h.lth
 have hb:=Zu hm;clear hm;obtain⟨n3,rfl,hm⟩:=hb
 generalize L:Qs (Qci p0 x2 g P) n3=ba at hm
 unfold Qci at hm
 try dsimp only at hm
 refine Qh<|qs 4 rfl<|qn 2 rfl ?_
 have aq:=(ap.kz I (Qd ((Ki (Xu (A:=(fun x=>d=0∨x≠f)) s (Kc (A:=(fun x=>d=0∨x≠f)) B (.inl rfl) (fun x hx=>(Qd Y.o))) (fun x hx=>(Qd Y.o)))):d=0∨zy16=0∨f≠gy16)))
 refine qv rfl (Vm (l:=x2) (c:=ic) Tryz.underlying30 rfl (Qk.rd aq))<|qv rfl (Zo (a:=t) (b:=(x2.length:Int)) rfl rfl)<|Qa<|Zy hm rfl (fun c4 hm=>?_) (fun c4 hm=>?_)
 · refine Zd<|Xh<|Xh<|Zc<|Xi<|Xa<|qg 3 rfl ?_
   refine qm rfl<|qv rfl (Xn (k:=.i64) (a:=g) (b:=1) rfl rfl)<|qm rfl<|Qj ?_
   have K_45:Kz [(y,z)] w8 aR:=(K9.kz I (Qd (Xu (A:=(fun x=>(x=z∧y≠0)∨w8.heap.size≤x)) s Qn)))
   subst ac
   exact⟨rfl,⟨n2,C,Qb (g+1),vy22,zy22,gy22⟩,Qi,⟨hm,h,⟨(Xu (A:=(fun x=>(x=z∧y≠0)∨w8.heap.size≤x)) j (Xu (A:=(fun x=>(x=z∧y≠0)∨w8.heap.size≤x)) s Qn))⟩,K_45⟩,Nat.lt_succ_self _⟩
 refine qu<|Qh<|Xc<|Qh<|dw [([])] [] (.leaf [(0,10),(1,10),(2,10),(3,10),(4,10),(5,10),(6,10),(7,10),(8,10),(9,10),(10,0),(11,0)]) ?_
 intro bB ar bb
 refine Jp<|dm 0 rfl rfl<|dm 0 rfl rfl ?_
 obtain⟨N,R,hm⟩:=Qc hm
 have O:=(aq.gr ar)
 refine dh 0 rfl rfl (fun w hS=>Jl (i:=g) Tryz.underlying30 (Qe).siz rfl (Qk.rd (Qk.kp O hS)) rfl R)<|dh 0 rfl rfl (fun w hS=>Zt (q:=0) (u:=.int .i64 N) Qe rfl (Qk.rd (Qk.kp O hS)) R (by first|rfl|omega) rfl)<|dm 0 rfl rfl<|dm 0 rfl rfl ?_
 obtain⟨M,S,hm⟩:=Qc hm
 refine dh 0 rfl rfl (fun w hS=>Jl (i:=t) Tryz.underlying30 (Qe).siz rfl (Qk.rd (Qk.kp O hS)) rfl S)<|dh 0 rfl rfl (fun w hS=>Zt (q:=0) (u:=.int .i64 M) Qe rfl (Qk.rd (Qk.kp O hS)) S (by first|rfl|omega) rfl)<|dh 0 rfl rfl (fun w hS=>Qgn (a:=M) (b:=1) (by simp) rfl rfl)<|dh 0 rfl rfl (fun w hS=>Kl (cs:=Qm.cs (Qm.mk N (Te .xor M 1))) Dn rfl rfl)<|qz [] rfl (Zz (cs:=Qm.cs (Qm.mk 0 0)) Qa2 rfl) ⟨fun _=>Qn,trivial⟩ ?_
 rintro _ bC ⟨aS,rfl,aT,T,ad⟩
 have bD:=ad.size
 have bc:=T.lt
 refine kG ad<|qz [(1,aS)] rfl (Jh Wn rfl rfl rfl T rfl rfl) ⟨fun _=>Qn,trivial⟩ ?_
 rintro _ bE ⟨U,G⟩
 have bF:=G.size
 refine kM G<|qd 3 rfl ?_
 have Y1:=Gr.trans ar ad
 have aU:=((((((B6.gr G7).ka K).kz K9 (Qd (Hz (b:=b1) B (.inl rfl)))).kz I (Qd (Xo (b:=b1) s (Hz B (.inl rfl))))).gr Y1).md G)
 refine qv rfl (Xm Zj rfl aU rfl)<|qv rfl (Xm Wn rfl U rfl) ?_
 obtain⟨bG,au,hm⟩:=Qc hm
 refine qe rfl (eC Qi5 rfl (Ql5 au)) ?_
 rintro _ aV ⟨rfl,J⟩
 have bH:=J.size
 refine Qa<|Wz hm rfl (fun c5 hm=>?_) (fun c5 hm=>?_)
 · refine Jb<|Xi<|Xa<|qg 3 rfl<|qm rfl<|qv rfl (Xn (k:=.i64) (a:=t) (b:=1) rfl rfl)<|qm rfl ?_
   refine Qj ?_
   have K_43:Kz [(zy16,gy16)] w9 aV:=(((I.gr Y1).md G).gr J)
   have aW:=(((h.gr Y1).md G (Xs Q)).gr J)
   subst L
   exact⟨rfl,⟨n3,C,Qb (t+1),vy22,zy22,gy22⟩,Qi,⟨hm,aW,⟨(Xu (A:=(fun x=>(x=gy16∧zy16≠0)∨w9.heap.size≤x)) j Qn)⟩,K_43⟩,Nat.lt_succ_self _⟩
 refine qg 5 rfl<|qm rfl ?_
 have aX:=(U.gr J)
 refine qv rfl (Xm Wn rfl aX rfl)<|qe rfl (Kt [(Qm.mk N (Te .xor M 1))] Qm.cs Nz rfl rfl (Vj rfl) rfl rfl rfl) ?_
 rintro bd bI ⟨be,aY,V,ae⟩
 have bJ:=ae.size
 have bf:=V.lth
 have aZ:=((((h.gr Y1).md G (Xs Q)).gr J).gr ae)
 obtain⟨a0,av,hm⟩:=Qc hm
 refine qe rfl (Ha (l:=C) (m:=[(Qm.mk N (Te .xor M 1))]) (c:=Qm.cs) Nw rfl rfl aZ (Qk.rd V) av (by decide)) ?_
 rintro aw a1 ⟨ax,ay,az,W,bg,aA⟩
 have bK:=W.size
 refine qm rfl<|Qj<|Xi<|Xa<|qg 3 rfl<|qm rfl<|qv rfl (Xn (k:=.i64) (a:=t) (b:=1) rfl rfl) ?_
 refine qm rfl<|Qj ?_
 have K_42:Kz [(zy16,gy16)] w9 a1:=(((((I.gr Y1).md G).gr J).gr ae).ka W (Qd (Xu (A:=(fun x=>(x=gy16∧zy16≠0)∨w9.heap.size≤x)) j Qn)))
 subst L
 exact⟨rfl,⟨n3,a0,Qb (t+1),aw,ax,ay⟩,Qi,⟨hm,az,⟨(Kc (A:=(fun x=>(x=gy16∧zy16≠0)∨w9.heap.size≤x)) aA (Xu (A:=(fun x=>(x=gy16∧zy16≠0)∨w9.heap.size≤x)) j Qn))⟩,K_42⟩,Nat.lt_succ_self _⟩
theorem Quk {p0 r}(hm:Qck p0=some r){w:World}:
 Calls Tryz.prog 82 [.agg (Qo.cs p0).toArray].toArray w fun e w'=>∃ v,e=.returned v∧(v=.tuple [.int .i64 r.1,.int .i64 r.2].toArray∧Gr w w'):=by
 unfold Qck at hm
 refine Xj 10 Tryz.func82 rfl rfl rfl<|qs 3 rfl<|qe rfl (Xq (cs:=Qo.cs p0) rfl rfl) ?_
 rintro _ w1 ⟨b1,rfl,k,b,G1⟩
 have z1:=G1.size
 have m:=b.lt
 refine qn 2 rfl<|Qa<|Qh<|qs 3 rfl<|qv rfl (Xm Zj rfl b rfl) ?_
 obtain⟨x1,i,hm⟩:=Qc hm
 refine qe rfl (eC Qeb rfl (Qfu i)) ?_
 rintro _ w2 ⟨rfl,G2⟩
 have z3:=G2.size
 refine qv rfl (Zr rfl)<|Qa<|Zh hm rfl (fun c1 hm=>?_) (fun c1 hm=>?_)
 · refine qs 2 rfl<|qn 2 rfl<|Qa<|Qp<|Xp ?_
   have X4:=(((Gr.refl w).trans G1).trans G2)
   cases hm
   exact⟨_,_,rfl,Jk rfl (Ql rfl) (Ql rfl),rfl,X4⟩
 refine qu<|qs 5 rfl ?_
 have B5:=(b.gr G2)
 refine qv rfl (Xm Zj rfl B5 rfl) ?_
 obtain⟨x2,j,hm⟩:=Qc hm
 refine qe rfl (eC Qp8 rfl (Qui j)) ?_
 rintro d w3 ⟨_,f,g,rfl,a,h,G3⟩
 have z6:=G3.size
 have n:=a.lth
 refine qv rfl (Vm (l:=x2) (c:=Qm.cs) Tryz.underlying101 rfl (Qk.rd a))<|qn 2 rfl<|Qa<|Qp ?_
 have X8:=((((Gr.refl w).trans G1).trans G2).trans G3)
 cases hm
 exact⟨_,_,rfl,Jk rfl (Ql rfl) (Ql rfl),rfl,X8⟩
theorem Quo {p0 p1 r}(hm:Oh p0 p1=some r){w:World}:
 Calls Tryz.prog 43 [.agg (Xg.cs p0).toArray,bv p1].toArray w fun e w'=>∃ v,e=.returned v∧(∃ ur0_7 zr0_7 gr0_7,v=.agg (Qq.cs r ur0_7).toArray∧Qk w' zr0_7 gr0_7 3 1 ur0_7 (r.Witness.map ic)∧Xb (zr0_7=0∨w.heap.size≤gr0_7)∧Gr w w'):=by
 unfold Oh at hm
 refine Xj 80 Tryz.func43 rfl rfl rfl<|qs 2 rfl<|qe rfl (Xq (cs:=Xg.cs p0) rfl rfl) ?_
 rintro _ w1 ⟨b1,rfl,aI,M,G1⟩
 have z1:=G1.size
 have aR:=M.lt
 refine qe rfl (Zz (cs:=Qq.cs (Qq.mk 0#8 false 0 0 0 0 0 []) (.slice none 0 0)) Pf rfl) ?_
 rintro _ w2 ⟨b2,rfl,aJ,G,G2⟩
 have z3:=G2.size
 have aS:=G.lt
 refine qd 5 rfl ?_
 have B5:=(M.gr G2)
 refine qv rfl (Xm Wx rfl B5 rfl)<|qm rfl ?_
 obtain⟨x1,ak,hm⟩:=Qc hm
 refine qe rfl (eC Qi2 rfl (Qlb ak)) ?_
 rintro _ w3 ⟨rfl,G3⟩
 have z6:=G3.size
 refine qe rfl (Zz (cs:=Qo.cs (Qo.mk 0#8 0 0 (Xz.mk 0#64 0#64 0#64))) Bt rfl) ?_
 rintro _ w4 ⟨b4,rfl,aK,N,G4⟩
 have z7:=G4.size
 have aT:=N.lt
 refine qe rfl (Jh Zj rfl rfl rfl N rfl rfl) ?_
 rintro _ w5 ⟨O,M5⟩
 have z9:=M5.size
 refine qd 4 rfl<|qm rfl<|qv rfl (Kl (cs:=Qq.cs (Qq.mk p1 false 0 0 0 0 0 []) (.slice none 0 0)) Es rfl rfl)<|qe rfl (Zz (cs:=Qq.cs (Qq.mk 0#8 false 0 0 0 0 0 []) (.slice none 0 0)) Pf rfl) ?_
 rintro _ w6 ⟨b6,rfl,aL,P,G6⟩
 have aU:=G6.size
 have aM:=P.lt
 refine qe rfl (Jh Zf rfl rfl (Qq.cs_ones _ _ rfl) P rfl rfl) ?_
 rintro _ w7 ⟨H,M7⟩
 have aV:=M7.size
 refine Qa ?_
 have Q:=((((((((Gr.refl w).trans G1).trans G2).trans G3).trans G4).md M5).trans G6).md M7)
 refine qj (β:=Int × Int × Int × List Int × Value × Nat × Nat) ([7,8]++rg 14 31) (fun⟨a2,a3,a4,a5,vy6,zy6,gy6⟩=>[]) (fun⟨a2,a3,a4,a5,vy6,zy6,gy6⟩ wr=>(Ul p0 p1 a2 a3 a4 a5=some r)∧Qk wr zy6 gy6 3 1 vy6 (a5.map ic)∧Xb (zy6=0∨w7.heap.size≤gy6)∧Bx wr b6 32 (Qq.cs (Qq.mk p1 false a2 a3 0 a4 0 a5) vy6)∧Kz [(1,b6)] w7 wr) ?_ ?_
 · refine qs 2 rfl<|qm rfl<|qv rfl (Jz (p:=p1) (q:=4#8) rfl rfl)<|Qa<|Zq hm rfl (fun c1 hm=>?_) (fun c1 hm=>?_)
   · refine Qh<|qs 3 rfl ?_
     have R:=((O.gr G6).md M7)
     refine qv rfl (Xm Zj rfl R rfl) ?_
     obtain⟨x8,al,hm⟩:=Qc hm
     refine qe rfl (eC Qq9 rfl (Qum al)) ?_
     rintro _ aW ⟨rfl,j⟩
     have aX:=j.size
     refine qv rfl (Zr rfl)<|Qa<|Zh hm rfl (fun c2 hm=>?_) (fun c2 hm=>?_)
     · refine qs 2 rfl ?_
       have am:=(H.gr j)
       refine qv rfl (Xm Zf rfl am rfl) ?_
       have Y1:=Gr.trans G3 G4
       have an:=(((((G.gr Y1).md M5).gr G6).md M7).gr j)
       refine qe rfl (Jh Zf rfl rfl (Qq.cs_ones _ _ rfl) an rfl rfl) ?_
       rintro _ aY ⟨S,T⟩
       have aZ:=T.size
       refine qb<|Xp ?_
       have ao:=((Q.trans j).md T)
       cases hm
       exact⟨_,_,rfl,Qr rfl (Wc Zf rfl S rfl),(.slice none 0 0),0,0,rfl,(Kx _ 0 3 1),⟨.inl rfl⟩,ao⟩
     refine qu<|qs 4 rfl<|qv rfl (Qg Tl rfl) ?_
     have ap:=(R.gr j)
     refine qv rfl (Qf (v:=.int .i64 x1.Degree) Qe rfl ap rfl)<|qv rfl (Qg Lr rfl) ?_
     have aq:=(H.gr j)
     refine qe rfl (Zs (cs':=Qq.cs (Qq.mk p1 false 0 x1.Degree 0 0 0 []) (.slice none 0 0)) (Qe).siz rfl rfl rfl aq rfl rfl) ?_
     rintro _ a0 ⟨U,V⟩
     have a1:=V.size
     refine Qa<|qg 2 rfl<|qv rfl (Qg Py rfl)<|qe rfl (Zs (cs':=Qq.cs (Qq.mk p1 false 0 x1.Degree 0 8 0 []) (.slice none 0 0)) (Qe).siz rfl rfl rfl U rfl rfl) ?_
     rintro _ a6 ⟨W,X⟩
     have a7:=X.size
     refine Qj ?_
     exact⟨rfl,⟨0,x1.Degree,8,[],(.slice none 0 0),0,0⟩,Qi,hm,(Kx _ 0 3 1),⟨(.inl rfl)⟩,W,(((Kz.gr (Kz.refl _ _) j).md V).md X)⟩
   refine qs 7 rfl ?_
   have Y:=((O.gr G6).md M7)
   refine qv rfl (Xm Zj rfl Y rfl) ?_
   obtain⟨x9,ar,hm⟩:=Qc hm
   refine qe rfl (eC Qqa rfl (Quk ar)) ?_
   rintro _ a8 ⟨rfl,o⟩
   have a9:=o.size
   refine qn 5 rfl<|Qa<|Qh ?_
   refine qg 9 rfl ?_
   have Z:=(Y.gr o)
   refine qv rfl (Xm Zj rfl Z rfl)<|qv rfl (Qg Th rfl) ?_
   have Y2:=Gr.trans G3 G4
   have aa:=(((((B5.gr Y2).md M5).gr G6).md M7).gr o)
   refine qv rfl (Qf (v:=.int .i64 p0.Revoked) Qe rfl aa rfl) ?_
   obtain⟨z,ab,hm⟩:=Qc hm
   refine qe rfl (eC Qqb rfl (Qut ab)) ?_
   rintro _ ba ⟨rfl,s⟩
   have bb:=s.size
   refine qn 3 rfl<|qv rfl (Qg Ti rfl) ?_
   have au:=((H.gr o).gr s)
   refine qe rfl (Zs (cs':=Qq.cs (Qq.mk p1 false z.1 0 0 0 0 []) (.slice none 0 0)) (Qe).siz rfl rfl rfl au rfl rfl) ?_
   rintro _ bc ⟨ac,B⟩
   have bd:=B.size
   refine qd 4 rfl<|qm rfl<|qv rfl (Kb (k:=.i64) (a:=16) (b:=x9.1) rfl rfl)<|qv rfl (Qg Py rfl)<|qe rfl (Zs (cs':=Qq.cs (Qq.mk p1 false z.1 0 0 (Qb (16*x9.1)) 0 []) (.slice none 0 0)) (Qe).siz rfl rfl rfl ac rfl rfl) ?_
   rintro _ be ⟨ad,C⟩
   have bf:=C.size
   refine Qa<|qg 6 rfl ?_
   have av:=(((Z.gr s).md B).md C)
   refine qv rfl (Xm Zj rfl av rfl)<|qv rfl (Qg Th rfl) ?_
   have aw:=(((aa.gr s).md B).md C)
   refine qv rfl (Qf (v:=.int .i64 p0.Revoked) Qe rfl aw rfl) ?_
   obtain⟨ae,af,hm⟩:=Qc hm
   refine qe rfl (eC Qqc rfl (Qus af)) ?_
   rintro f bg ⟨_,l,m,rfl,c,g,I⟩
   have bh:=I.size
   have aN:=c.lth
   refine qv rfl (Qg Ht rfl) ?_
   have ax:=(ad.gr I)
   refine qe rfl (Zs (cs':=Qq.cs (Qq.mk p1 false z.1 0 0 (Qb (16*x9.1)) 0 ae) f) (Zp).siz rfl rfl (Qk.oneB c) ax rfl rfl) ?_
   rintro _ ay ⟨ag,J⟩
   have bi:=J.size
   refine Qj ?_
   have K_56:Kz [(1,b6)] w7 ay:=((((((Kz.gr (Kz.refl _ _) o).gr s).md B).md C).gr I).md J)
   have az:=(c.md J (Qu g))
   exact⟨rfl,⟨z.1,0,Qb (16*x9.1),ae,f,l,m⟩,Qi,hm,az,⟨(Xe (A:=(fun x=>w7.heap.size≤x)) g)⟩,ag,K_56⟩
 clear hm;rintro⟨a2,a3,a4,a5,vy6,zy6,gy6⟩ w8 ⟨hm,t,d,h,K8⟩
 have bj:=K8.size
 have aO:=t.lth
 have aP:=h.lt
 unfold Ul at hm
 refine qs 10 rfl<|qv rfl (Qg Ti rfl)<|qv rfl (Qf (v:=.int .i64 a2) Qe rfl h rfl)<|qv rfl (Kb (k:=.i64) (a:=18) (b:=a2) rfl rfl)<|qv rfl (Xn (k:=.i64) (a:=67) (b:=Qb (18*a2)) rfl rfl)<|qv rfl (Qg Lr rfl) ?_
 refine qv rfl (Qf (v:=.int .i64 a3) Qe rfl h rfl)<|qv rfl (Kb (k:=.i64) (a:=16) (b:=a3) rfl rfl)<|qv rfl (Xn (k:=.i64) (a:=Qb (67+(Qb (18*a2)))) (b:=Qb (16*a3)) rfl rfl)<|qv rfl (Qg Lu rfl)<|qe rfl (Zs (cs':=Qq.cs (Qq.mk p1 false a2 a3 (Qb ((Qb (67+(Qb (18*a2))))+(Qb (16*a3)))) a4 0 a5) vy6) (Qe).siz rfl rfl rfl h rfl rfl) ?_
 rintro _ w9 ⟨aA,M9⟩
 have bk:=M9.size
 refine Qa<|Qh<|dw [([b6]),([])] [(19,[1])] (.leaf [(0,10),(1,10),(2,10),(3,10),(4,10),(5,10),(6,11),(7,10),(8,10),(9,10),(11,10),(12,10),(14,10),(15,11),(10,0),(13,10),(16,10),(17,10),(18,10),(19,0)]) ?_
 intro aB u aQ
 refine Jp<|dh 0 rfl rfl (fun w hS=>Qg Ag rfl) ?_
 have Y3:=Gr.trans G3 G4
 have y:=(((((((B5.gr Y3).md M5).gr G6).md M7).kz K8).md M9).gr u)
 refine dh 0 rfl rfl (fun w hS=>Qf (v:=.int .i64 p0.Headers) Qe rfl (Bx.kp y hS) rfl)<|dh 0 rfl rfl (fun w hS=>Qg Ah rfl)<|dh 0 rfl rfl (fun w hS=>Qf (v:=.int .i64 p0.HeaderPrice) Qe rfl (Bx.kp y hS) rfl)<|dh 0 rfl rfl (fun w hS=>Kb (k:=.i64) (a:=p0.Headers) (b:=p0.HeaderPrice) rfl rfl)<|dh 0 rfl rfl (fun w hS=>Qg Lu rfl) ?_
 have K:=(aA.gr u)
 refine dh 1 rfl rfl (fun w hS=>Qf (v:=.int .i64 (Qb ((Qb (67+(Qb (18*a2))))+(Qb (16*a3))))) Qe rfl (Bx.kp K hS) rfl)<|dh 0 rfl rfl (fun w hS=>Kb (k:=.i64) (a:=Qb (p0.Headers*p0.HeaderPrice)) (b:=Qb ((Qb (67+(Qb (18*a2))))+(Qb (16*a3)))) rfl rfl)<|dh 0 rfl rfl (fun w hS=>Qg Du rfl)<|dh 0 rfl rfl (fun w hS=>Qf (v:=.int .i64 p0.Depth) Qe rfl (Bx.kp y hS) rfl)<|dh 0 rfl rfl (fun w hS=>Qg Ai rfl)<|dh 0 rfl rfl (fun w hS=>Qf (v:=.int .i64 p0.StoragePrice) Qe rfl (Bx.kp y hS) rfl)<|dh 0 rfl rfl (fun w hS=>Qg Py rfl) ?_
 refine dh 1 rfl rfl (fun w hS=>Qf (v:=.int .i64 a4) Qe rfl (Bx.kp K hS) rfl) ?_
 obtain⟨x7,aC,hm⟩:=Qc hm
 refine qz [] rfl (eC Dq rfl (Dz aC)) ⟨fun _=>Qn,fun _=>Qn,trivial⟩ ?_
 rintro _ bm ⟨rfl,i⟩
 have bo:=i.size
 refine kG i ?_
 have D:=((Kp.refl ([b6]) aB).gr i)
 refine qh 0 rfl rfl D (fun w hS=>Kb (k:=.i64) (a:=x7) (b:=p0.StoragePrice) rfl rfl)<|qh 0 rfl rfl D (fun w hS=>Kb (k:=.i64) (a:=Qb (x7*p0.StoragePrice)) (b:=a4) rfl rfl)<|qh 0 rfl rfl D (fun w hS=>Xn (k:=.i64) (a:=Qb ((Qb (p0.Headers*p0.HeaderPrice))*(Qb ((Qb (67+(Qb (18*a2))))+(Qb (16*a3)))))) (b:=Qb ((Qb (x7*p0.StoragePrice))*a4)) rfl rfl)<|qh 0 rfl rfl D (fun w hS=>Qg Tj rfl) ?_
 have aD:=(K.gr i)
 refine qz [(1,b6)] rfl (Zs (cs':=Qq.cs (Qq.mk p1 false a2 a3 (Qb ((Qb (67+(Qb (18*a2))))+(Qb (16*a3)))) a4 (Qb ((Qb ((Qb (p0.Headers*p0.HeaderPrice))*(Qb ((Qb (67+(Qb (18*a2))))+(Qb (16*a3))))))+(Qb ((Qb (x7*p0.StoragePrice))*a4)))) a5) vy6) (Qe).siz rfl rfl rfl aD rfl rfl) ⟨fun _=>Qn,nofun,trivial⟩ ?_
 rintro _ bp ⟨F,n⟩
 have bq:=n.size
 refine kM n<|qd 7 rfl<|qv rfl (Qg Py rfl)<|qv rfl (Qf (v:=.int .i64 a4) Qe rfl F rfl)<|qv rfl (Qg Af rfl) ?_
 have aE:=((y.gr i).md n)
 refine qv rfl (Qf (v:=.int .i64 p0.Storage) Qe rfl aE rfl)<|qv rfl (Yr (a:=a4) (b:=p0.Storage) rfl rfl)<|qv rfl (Qg Lq rfl)<|qe rfl (Zs (cs':=Qq.cs (Qq.mk p1 (decide (a4≤p0.Storage)) a2 a3 (Qb ((Qb (67+(Qb (18*a2))))+(Qb (16*a3)))) a4 (Qb ((Qb ((Qb (p0.Headers*p0.HeaderPrice))*(Qb ((Qb (67+(Qb (18*a2))))+(Qb (16*a3))))))+(Qb ((Qb (x7*p0.StoragePrice))*a4)))) a5) vy6) (He).siz rfl rfl rfl F rfl rfl) ?_
 rintro _ br ⟨ah,E⟩
 have bs:=E.size
 refine qd 2 rfl<|qv rfl (Xm Zf rfl ah rfl) ?_
 have aF:=((((((((((G.gr Y3).md M5).gr G6).md M7).kz K8).md M9).gr u).gr i).md n).md E)
 have ai:=(((((t.md M9 (Qu d)).gr u).gr i).md n (Qu d)).md E (Qu d))
 refine qe rfl (Jh Zf rfl rfl (Qq.cs_ones _ _ (Qk.oneB ai)) aF rfl rfl) ?_
 rintro _ bu ⟨aj,L⟩
 have bw:=L.size
 refine Qa<|Qp ?_
 have aG:=(ai.md L (Qu d))
 have aH:=(((((((Q.kz K8).md M9).trans u).trans i).md n).md E).md L)
 cases hm
 exact⟨_,_,rfl,Qr rfl (Wc Zf rfl aj rfl),vy6,zy6,gy6,rfl,aG,⟨(Xe (A:=(fun x=>w.heap.size≤x)) d)⟩,aH⟩
theorem Qup {p0 r}(hm:Oi p0=some r){w:World}:
 Calls Tryz.prog 20 [.agg (Xg.cs p0).toArray].toArray w fun e w'=>∃ v,e=.returned v∧(∃ ur0_0 zr0_0 gr0_0 Fr0_0,v=.agg (Xk.cs r ur0_0).toArray∧Xw Yx w' zr0_0 gr0_0 32 ur0_0 Fr0_0 r.Choices∧Xb (zr0_0=0∨w.heap.size≤gr0_0)∧(∀ x∈Fr0_0,Pv [] [] w.heap.size x)∧Gr w w'):=by
 unfold Oi at hm
 refine Xj 42 Tryz.func20 rfl rfl rfl<|qs 2 rfl<|qe rfl (Xq (cs:=Xg.cs p0) rfl rfl) ?_
 rintro _ w1 ⟨b1,rfl,aB,S,G1⟩
 have z1:=G1.size
 have aM:=S.lt
 refine qe rfl (Zz (cs:=Xk.cs (Xk.mk [] 0#8) (.slice none 0 0)) Nu rfl) ?_
 rintro _ w2 ⟨b2,rfl,aC,T,G2⟩
 have z3:=G2.size
 have aN:=T.lt
 refine qd 1 rfl<|qe rfl (Zz (cs:=Xk.cs (Xk.mk [] 0#8) (.slice none 0 0)) Nu rfl) ?_
 rintro _ w3 ⟨b3,rfl,aD,U,G3⟩
 have z5:=G3.size
 have aO:=U.lt
 refine Qa<|Qh<|qs 1 rfl<|qm rfl<|Qa<|Xc ?_
 have X7:=((((Gr.refl w).trans G1).trans G2).trans G3)
 refine Zv (α:=Nat × BitVec 8 × List Qq × BitVec 8 × Value × Nat × Nat × List Nat) (rg 4 37) (fun⟨n1,a5,a6,a7,vy8,zy8,gy8,Fy8⟩=>[(4,bv a5)]) (fun⟨n1,a5,a6,a7,vy8,zy8,gy8,Fy8⟩ wr=>(Qs (Uo p0) n1 (a5,a6,a7)=some r)∧Xw Yx wr zy8 gy8 32 vy8 Fy8 a6∧Xb (zy8=0∨w3.heap.size≤gy8)∧(∀ x∈Fy8,Pv [] [] w3.heap.size x)∧Bx wr b3 29 (Xk.cs (Xk.mk a6 a7) vy8)∧Kz [(1,b3)] w3 wr) (fun⟨n1,a5,a6,a7,vy8,zy8,gy8,Fy8⟩=>n1) ⟨Qy,1#8,[],0#8,(.slice none 0 0),0,0,[]⟩ ?_ ?_ ?_
 · exact Qi
 · exact⟨hm,(Qbc Yx _ 0 32),⟨(.inl rfl)⟩,Vo,U,Kz.refl _ _⟩
 clear hm;rintro⟨n1,a5,a6,a7,vy8,zy8,gy8,Fy8⟩ w4 ⟨hm,g,c,f,s,K4⟩
 have z8:=K4.size
 have ak:=g.flt
 have C:=g.lth
 have aE:=s.lt
 have hb:=Zu hm;clear hm;obtain⟨n1,rfl,hm⟩:=hb
 generalize D:Qs (Uo p0) n1=V at hm
 unfold Uo at hm
 try dsimp only at hm
 refine Qh<|qs 2 rfl<|qm rfl<|qv rfl (Qgr (p:=a5) (q:=4#8) rfl rfl)<|Qa<|Zy hm rfl (fun c1 hm=>?_) (fun c1 hm=>?_)
 · refine Zd<|Xh<|Xh<|Zc<|Xa<|qs 2 rfl ?_
   refine qv rfl (Xm Wy rfl s rfl) ?_
   have al:=((T.gr G3).kz K4)
   refine qe rfl (Jh Wy rfl rfl (Xk.cs_ones _ _ (Xw.oneB g)) al rfl rfl) ?_
   rintro _ aP ⟨W,M⟩
   have aQ:=M.size
   refine Qa<|Qp ?_
   have am:=(g.md M (Qd (Qu (b:=b2) c)) (Yj (A:=fun x=>1=0∨x≠b2) f Vo Yl (fun x hx=>.inr (by omega))))
   have an:=((X7.kz K4).md M)
   cases hm
   exact⟨_,_,rfl,Qr rfl (Wc Wy rfl W rfl),vy8,zy8,gy8,Fy8,rfl,am,⟨(Xe (A:=(fun x=>w.heap.size≤x)) c)⟩,(Yj (A:=(Pv [] [] w.heap.size)) f Vo Yl (fun x hx=>.inr (.inr (by omega)))),an⟩
 refine qu<|Qh<|Xc<|qs 5 rfl ?_
 have ao:=(((S.gr G2).gr G3).kz K4)
 refine qv rfl (Xm Wx rfl ao rfl)<|qm rfl ?_
 obtain⟨x9,ap,hm⟩:=Qc hm
 refine qe rfl (eC Qpw rfl (Quo ap)) ?_
 rintro _ w5 ⟨E,h,j,rfl,k,d,G5⟩
 have aR:=G5.size
 have X:=k.lth
 refine qe rfl (Zz (cs:=Qq.cs (Qq.mk 0#8 false 0 0 0 0 0 []) (.slice none 0 0)) Pf rfl) ?_
 rintro _ w6 ⟨b6,rfl,aF,Y,G6⟩
 have aS:=G6.size
 have aG:=Y.lt
 have Z:=(k.gr G6)
 refine qe rfl (Jh Zf rfl rfl (Qq.cs_ones _ _ (Qk.oneB Z)) Y rfl rfl) ?_
 rintro _ w7 ⟨aa,M7⟩
 have aT:=M7.size
 refine qd 7 rfl<|qv rfl (Qg Vc rfl) ?_
 have Y1:=Gr.trans G5 G6
 have ab:=((s.gr Y1).md M7)
 refine qv rfl (Qf (v:=vy8) Kw rfl ab rfl)<|qv rfl (Xm Zf rfl aa rfl) ?_
 have ac:=(Z.md M7 (Xs X))
 refine qe rfl (Qeg (R:=Yx) (F:=(zf h j)) [(x9,E)] Qdo rfl rfl rfl rfl rfl (by simp only[List.mem_cons,List.not_mem_nil,or_false];rintro p rfl;exact⟨_,_,_,(Qk.rd ac),(Qes _ _)⟩) (Qgw ac.lth.o)) ?_
 rintro aU w8 ⟨aV,aH,N,G8⟩
 have aW:=G8.size
 have aI:=N.flt
 have aJ:=N.lth
 have aq:=(((g.gr Y1).md M7 (Qd (Xs (b:=b6) C)) (fun x hx=>.inr (by have:=ak x hx;omega))).gr G8)
 obtain⟨G,ad,hm⟩:=Qc hm
 refine qe rfl (Qef (l:=a6) (m:=[x9]) Qdm rfl rfl aq (Xw.rd N) ad (by decide) (Yz (A:=fun x=>zy8=0∨x≠gy8) (Xe (A:=(fun x=>zy8=0∨x≠gy8)) d (fun x hx=>(Qd C.o))))) ?_
 rintro H w9 ⟨ae,af,I,y,aX,z⟩
 have aY:=y.size
 have aK:=I.flt
 refine qv rfl (Qg Vc rfl) ?_
 have ar:=((ab.gr G8).ka y (Qd (Qu (b:=b3) c)))
 refine qe rfl (Zs (cs':=Xk.cs (Xk.mk G a7) H) (Kw).siz rfl rfl (Xw.oneB I) ar rfl rfl) ?_
 rintro _ au ⟨J,n⟩
 have aZ:=n.size
 refine Qa ?_
 have a0:=((((((X7.kz K4).trans Y1).md M7).trans G8).ka y (Qd (Xe (A:=(fun x=>w.heap.size≤x)) c))).md n)
 refine qj (β:=Bool) (rg 19 20) (fun K=>[(38,.bool K)]) (fun K wr=>(Um a5 a7 V G K=some r)∧Kz [] au wr) ?_ ?_
 · refine dw [([])] [] (.leaf [(0,10),(1,10),(2,10),(3,10),(4,10),(5,10),(6,10),(7,10),(8,10),(9,10),(10,10),(11,10),(12,10),(13,10),(14,10),(15,10),(16,10),(17,10),(18,10),(19,10)]) ?_
   intro ag B aL
   refine Jp<|dh 0 rfl rfl (fun w hS=>Qg Lq rfl) ?_
   have ah:=((((aa.gr G8).ka y (Qd (Xs (b:=b6) C))).md n).gr B)
   refine dh 0 rfl rfl (fun w hS=>Qf (v:=.bool x9.Fits) He rfl (Bx.kp ah hS) rfl)<|Qky hm 0 rfl rfl (Kp.refl ([]) ag) (fun w hS=>Qt rfl) (fun c3 hm=>?_) (fun c3 hm=>?_)
   · refine dx 0 rfl rfl<|dx 0 rfl rfl<|dx 0 rfl rfl<|dx 0 rfl rfl<|dx 0 rfl rfl<|dx 0 rfl rfl<|dx 0 rfl rfl ?_
     refine dx 0 rfl rfl<|dx 0 rfl rfl<|dx 0 rfl rfl<|dx 0 rfl rfl<|dx 0 rfl rfl<|dx 0 rfl rfl<|dx 0 rfl rfl ?_
     refine dx 0 rfl rfl<|dx 0 rfl rfl<|dm 0 rfl rfl<|Qj ?_
     exact⟨rfl,false,Qi,hm,(Qw.gr B)⟩
   refine dh 0 rfl rfl (fun w hS=>Qg Hb rfl) ?_
   have O:=(J.gr B)
   refine dh 0 rfl rfl (fun w hS=>Qf (v:=bv a7) Zb rfl (Bx.kp O hS) rfl)<|dh 0 rfl rfl (fun w hS=>Jz (p:=a7) (q:=0#8) rfl rfl)<|Ni hm 0 rfl rfl (Kp.refl ([]) ag) (fun w hS=>Qt rfl) (fun c4 hm=>?_) (fun c4 hm=>?_)
   · refine dx 0 rfl rfl<|dx 0 rfl rfl<|dx 0 rfl rfl<|dx 0 rfl rfl<|dx 0 rfl rfl<|dx 0 rfl rfl<|dx 0 rfl rfl ?_
     refine dx 0 rfl rfl<|dx 0 rfl rfl<|dx 0 rfl rfl<|dx 0 rfl rfl<|dm 0 rfl rfl<|dm 0 rfl rfl<|Qj ?_
     exact⟨rfl,true,Qi,hm,(Qw.gr B)⟩
   refine dh 0 rfl rfl (fun w hS=>Qg Tj rfl)<|dh 0 rfl rfl (fun w hS=>Qf (v:=.int .i64 x9.Cost) Qe rfl (Bx.kp ah hS) rfl)<|dh 0 rfl rfl (fun w hS=>Qg Vc rfl)<|dh 0 rfl rfl (fun w hS=>Qf (v:=H) Kw rfl (Bx.kp O hS) rfl)<|dh 0 rfl rfl (fun w hS=>Qg Hb rfl)<|dh 0 rfl rfl (fun w hS=>Qf (v:=bv a7) Zb rfl (Bx.kp O hS) rfl)<|dh 0 rfl rfl (fun w hS=>Qnl (p:=a7) (q:=1#8) rfl rfl) ?_
   obtain⟨P,L,hm⟩:=Qc hm
   have ai:=((I.md n (Qd (Hz (b:=b3) z (Qu c))) (Hl (Yj (A:=fun x=>1=0∨x≠b3) f Vo Yl (fun x hx=>.inr (by omega))) (Yz (A:=fun x=>1=0∨x≠b3) (Nc (Xe (A:=(fun x=>x≠b3)) d))))).gr B)
   refine dh 0 rfl rfl (fun w hS=>Vu (i:=Jn (a7-1#8)) Tryz.underlying27 (Zf).siz rfl (Xw.rd (Xw.kp ai hS (.inr List.not_mem_nil) (fun _ _=>List.not_mem_nil))) rfl L)<|dh 0 rfl rfl (fun w hS=>Qg Tj rfl)<|dh 0 rfl rfl (fun w hS=>Qn8 (q:=6) (u:=.int .i64 P.Cost) Qe rfl (Xw.rd (Xw.kp ai hS (.inr List.not_mem_nil) (fun _ _=>List.not_mem_nil))) L (by first|rfl|omega) (fun _=>rfl))<|dh 0 rfl rfl (fun w hS=>Zo (a:=x9.Cost) (b:=P.Cost) rfl rfl)<|dm 0 rfl rfl<|dm 0 rfl rfl<|Qj ?_
   exact⟨rfl,(decide (x9.Cost<P.Cost)),Qi,hm,(Qw.gr B)⟩
 clear hm;rintro K av ⟨hm,t⟩
 have a1:=t.size
 unfold Um at hm
 refine Wz hm rfl (fun c2 hm=>?_) (fun c2 hm=>?_)
 · refine Jb<|Xi<|Xa<|qg 3 rfl<|qm rfl<|qv rfl (Qd8 (p:=a5) (q:=1#8) rfl rfl)<|qm rfl ?_
   refine Qj ?_
   have K_35:Kz [(1,b3)] w3 av:=((((((K4.gr Y1).md M7).gr G8).ka y (Qd (Xe (A:=(fun x=>w3.heap.size≤x)) c))).md n).kz t)
   have aw:=((I.md n (Qd (Hz (b:=b3) z (Qu c))) (Hl (Yj (A:=fun x=>1=0∨x≠b3) f Vo Yl (fun x hx=>.inr (by omega))) (Yz (A:=fun x=>1=0∨x≠b3) (Nc (Xe (A:=(fun x=>x≠b3)) d))))).kz t Qn (fun x hx=>Qn))
   have ax:=(J.kz t)
   subst D
   exact⟨rfl,⟨n1,a5+1#8,G,a7,H,ae,af,(Fy8++(zf h j))⟩,Qi,⟨hm,aw,⟨(Kc (A:=(fun x=>w3.heap.size≤x)) z (Xe (A:=(fun x=>w3.heap.size≤x)) c))⟩,(Hl (Yj (A:=(Pv [] [] w3.heap.size)) f Vo Yl (fun x hx=>.inr (.inr (by omega)))) (Yz (A:=(Pv [] [] w3.heap.size)) (Ik (Xe (A:=(fun x=>Mz [] x∨w3.heap.size≤x)) d)))),ax,K_35⟩,Nat.lt_succ_self _⟩
 refine qg 3 rfl<|qm rfl<|qv rfl (Qg Hb rfl) ?_
 have ay:=(J.kz t)
 refine qe rfl (Zs (cs':=Xk.cs (Xk.mk G a5) H) (Zb).siz rfl rfl rfl ay rfl rfl) ?_
 rintro _ az ⟨aj,Q⟩
 have a2:=Q.size
 refine Qj<|Xi<|Xa<|qg 3 rfl<|qm rfl<|qv rfl (Qd8 (p:=a5) (q:=1#8) rfl rfl)<|qm rfl ?_
 refine Qj ?_
 have K_33:Kz [(1,b3)] w3 az:=(((((((K4.gr Y1).md M7).gr G8).ka y (Qd (Xe (A:=(fun x=>w3.heap.size≤x)) c))).md n).kz t).md Q)
 have aA:=(((I.md n (Qd (Hz (b:=b3) z (Qu c))) (Hl (Yj (A:=fun x=>1=0∨x≠b3) f Vo Yl (fun x hx=>.inr (by omega))) (Yz (A:=fun x=>1=0∨x≠b3) (Nc (Xe (A:=(fun x=>x≠b3)) d))))).kz t Qn (fun x hx=>Qn)).md Q (Qd (Hz (b:=b3) z (Qu c))) (Hl (Yj (A:=fun x=>1=0∨x≠b3) f Vo Yl (fun x hx=>.inr (by omega))) (Yz (A:=fun x=>1=0∨x≠b3) (Nc (Xe (A:=(fun x=>x≠b3)) d)))))
 subst D
 exact⟨rfl,⟨n1,a5+1#8,G,a5,H,ae,af,(Fy8++(zf h j))⟩,Qi,⟨hm,aA,⟨(Kc (A:=(fun x=>w3.heap.size≤x)) z (Xe (A:=(fun x=>w3.heap.size≤x)) c))⟩,(Hl (Yj (A:=(Pv [] [] w3.heap.size)) f Vo Yl (fun x hx=>.inr (.inr (by omega)))) (Yz (A:=(Pv [] [] w3.heap.size)) (Ik (Xe (A:=(fun x=>Mz [] x∨w3.heap.size≤x)) d)))),aj,K_33⟩,Nat.lt_succ_self _⟩
theorem Quq {p0 p1 vp0_0 zp0_0 gp0_0 op0_0 Fp0_0 vp1_0 zp1_0 gp1_0 op1_0 Fp1_0 r}(hm:Bh p0 p1=some r){w:World}(d:Xx Yx w zp0_0 gp0_0 op0_0 vp0_0 Fp0_0 p0.Choices)(f:Xx Yx w zp1_0 gp1_0 op1_0 vp1_0 Fp1_0 p1.Choices):
 Calls Tryz.prog 7 [.agg (Xk.cs p0 vp0_0).toArray,.agg (Xk.cs p1 vp1_0).toArray].toArray w fun e w'=>∃ v,e=.returned v∧(v=.bool r∧Gr w w'):=by
 have aH:=d.flt
 have aI:=d.lth
 have aJ:=f.flt
 have aK:=f.lth
 unfold Bh at hm
 refine Xj 39 Tryz.func7 rfl rfl rfl<|qs 3 rfl<|qe rfl (Xq (cs:=Xk.cs p0 vp0_0) rfl rfl) ?_
 rintro _ w1 ⟨b1,rfl,ab,h,G1⟩
 have z5:=G1.size
 have aL:=h.lt
 refine qe rfl (Xq (cs:=Xk.cs p1 vp1_0) rfl rfl) ?_
 rintro _ w2 ⟨b2,rfl,ac,g,G2⟩
 have z7:=G2.size
 have aM:=g.lt
 refine qm rfl<|Qa<|Qh ?_
 have Y1:=Gr.trans G1 G2
 have X9:=((Gr.refl w).trans Y1)
 refine qj (β:=Bool) (rg 6 14) (fun a1=>[(19,.bool a1)]) (fun a1 wr=>(Oj p0 p1 a1=some r)∧Kz [] w2 wr) ?_ ?_
 · refine qg 14 rfl<|qv rfl (Qg Vc rfl) ?_
   have t:=(h.gr G2)
   refine qv rfl (Qf (v:=vp0_0) Kw rfl t rfl) ?_
   have J:=(d.gr Y1)
   refine qv rfl (Hq (l:=p0.Choices) Tryz.underlying27 rfl J)<|qv rfl (Qg Vc rfl)<|qv rfl (Qf (v:=vp1_0) Kw rfl g rfl) ?_
   have K:=(f.gr Y1)
   refine qv rfl (Hq (l:=p1.Choices) Tryz.underlying27 rfl K)<|qv rfl (Ke (a:=(p0.Choices.length:Int)) (b:=(p1.Choices.length:Int)) rfl rfl)<|Zm hm rfl (Qt rfl) (fun c4 hm=>?_) (fun c4 hm=>?_)
   · refine qn 6 rfl<|Qj ?_
     exact⟨rfl,true,Qi,hm,Qw⟩
   refine qv rfl (Qg Hb rfl)<|qv rfl (Qf (v:=bv p0.Best) Zb rfl t rfl)<|qv rfl (Qg Hb rfl)<|qv rfl (Qf (v:=bv p1.Best) Zb rfl g rfl)<|qv rfl (Bp (p:=p0.Best) (q:=p1.Best) rfl rfl)<|qm rfl<|Qj ?_
   exact⟨rfl,(decide (p0.Best≠p1.Best)),Qi,hm,Qw⟩
 clear hm;rintro a1 w3 ⟨hm,K3⟩
 have aN:=K3.size
 unfold Oj at hm
 refine Zh hm rfl (fun c1 hm=>?_) (fun c1 hm=>?_)
 · refine qs 1 rfl<|qm rfl<|qb ?_
   have L:=(X9.kz K3)
   cases hm
   exact⟨_,_,rfl,Qr rfl (Ql rfl),rfl,L⟩
 refine qu<|Qh<|qs 1 rfl<|qm rfl<|Qa ?_
 refine Xc ?_
 have u:=(X9.kz K3)
 have M:=((d.gr Y1).kz K3 Qn (fun x hx=>Qn))
 have N:=((f.gr Y1).kz K3 Qn (fun x hx=>Qn))
 refine Zv (α:=Nat × Int) ([4,5]++rg 20 19) (fun⟨n2,a3⟩=>[(4,.bool false),(5,.int .i64 a3)]) (fun⟨n2,a3⟩ wr=>(Qs (Uq p0 p1) n2 a3=some r)∧Kz [] w3 wr) (fun⟨n2,a3⟩=>n2) ⟨Qy,0⟩ ?_ ?_ ?_
 · exact Qi
 · exact⟨hm,Kz.refl _ _⟩
 clear hm;rintro⟨n2,a3⟩ w4 ⟨hm,K4⟩
 have aO:=K4.size
 have hb:=Zu hm;clear hm;obtain⟨n2,rfl,hm⟩:=hb
 generalize j:Qs (Uq p0 p1) n2=y at hm
 unfold Uq at hm
 try dsimp only at hm
 refine Qh<|qs 5 rfl<|qm rfl<|qv rfl (Qg Vc rfl) ?_
 have z:=(((h.gr G2).kz K3).kz K4)
 refine qv rfl (Qf (v:=vp0_0) Kw rfl z rfl) ?_
 have A:=(M.kz K4 Qn (fun x hx=>Qn))
 refine qv rfl (Hq (l:=p0.Choices) Tryz.underlying27 rfl A)<|qv rfl (Zo (a:=a3) (b:=(p0.Choices.length:Int)) rfl rfl)<|Qa<|Zy hm rfl (fun c2 hm=>?_) (fun c2 hm=>?_)
 · refine Zd<|Xh<|Xh<|Zc<|Xa<|qs 1 rfl ?_
   refine qm rfl<|Qa<|Qp ?_
   have O:=(u.kz K4)
   cases hm
   exact⟨_,_,rfl,Qr rfl (Ql rfl),rfl,O⟩
 refine qu<|Qh<|Xc ?_
 have P:=(u.kz K4)
 refine qj (β:=Bool) (rg 27 12) (fun a4=>[(38,.bool a4)]) (fun a4 wr=>(Qcm a3 y a4=some r)∧Kz [] w4 wr) ?_ ?_
 · refine dw [([])] [] (.fork [(0,10),(1,10),(2,10),(3,10),(5,10),(6,10),(7,10),(8,10)] (.leaf [(4,0),(9,0),(10,0),(11,10)]) (.leaf [(9,0),(4,0),(10,0),(11,10)])) ?_
   intro w6 G6 aP
   refine Qly<|dh 0 rfl rfl (fun w hS=>Qg Vc rfl) ?_
   have Q:=(z.gr G6)
   refine dh 0 rfl rfl (fun w hS=>Qf (v:=vp0_0) Kw rfl (Bx.kp Q hS) rfl)<|dm 0 rfl rfl ?_
   obtain⟨y5,m,hm⟩:=Qc hm
   have n:=(A.gr G6)
   refine dh 0 rfl rfl (fun w hS=>Vu (i:=a3) Tryz.underlying27 (Zf).siz rfl (Xx.kp n hS (.inr List.not_mem_nil) (fun _ _=>List.not_mem_nil)) rfl m)<|dh 0 rfl rfl (fun w hS=>Qg Vc rfl) ?_
   have R:=(((g.kz K3).kz K4).gr G6)
   refine dh 0 rfl rfl (fun w hS=>Qf (v:=vp1_0) Kw rfl (Bx.kp R hS) rfl)<|dm 0 rfl rfl ?_
   obtain⟨y6,o,hm⟩:=Qc hm
   have s:=((N.kz K4 Qn (fun x hx=>Qn)).gr G6)
   refine dh 0 rfl rfl (fun w hS=>Vu (i:=a3) Tryz.underlying27 (Zf).siz rfl (Xx.kp s hS (.inr List.not_mem_nil) (fun _ _=>List.not_mem_nil)) rfl o)<|Qlx ?_ ?_
   · refine Jp ?_
     obtain⟨ad,ae,af,ag,ah,S,B,C,ai⟩:=Hk n m
     have aj:=C.lth
     refine qw rfl (Hp (c:=(fun p=>Qq.cs p.1 p.2)) Zf rfl S B (by first|rfl|omega)) ?_
     obtain⟨ak,al,am,an,ao,T,D,E,ap⟩:=Hk s o
     have aq:=E.lth
     refine qw rfl (Hp (c:=(fun p=>Qq.cs p.1 p.2)) Zf rfl T D (by first|rfl|omega)) ?_
     obtain⟨x7,U,hm⟩:=Qc hm
     refine qz [] rfl (eC Qe5 rfl (Qfw U C E)) ⟨fun _=>Qn,trivial⟩ ?_
     rintro _ w7 ⟨rfl,G7⟩
     have aQ:=G7.size
     refine kG G7 ?_
     have V:=((Kp.refl ([]) w6).gr G7)
     refine qh 0 rfl rfl V (fun w hS=>Zr rfl)<|Qj ?_
     exact⟨rfl,(!x7),Qi,hm,((Qw.gr G6).gr G7)⟩
   refine Jp ?_
   obtain⟨ar,au,av,aw,ax,W,F,G,ay⟩:=Hk s o
   have az:=G.lth
   refine qw rfl (Hp (c:=(fun p=>Qq.cs p.1 p.2)) Zf rfl W F (by first|rfl|omega)) ?_
   obtain⟨aA,aB,aC,aD,aE,X,H,I,aF⟩:=Hk n m
   have aG:=I.lth
   refine qw rfl (Hp (c:=(fun p=>Qq.cs p.1 p.2)) Zf rfl X H (by first|rfl|omega)) ?_
   obtain⟨x8,Y,hm⟩:=Qc hm
   refine qz [] rfl (eC Qe5 rfl (Qfw Y I G)) ⟨fun _=>Qn,trivial⟩ ?_
   rintro _ w8 ⟨rfl,G8⟩
   have aR:=G8.size
   refine kG G8 ?_
   have Z:=((Kp.refl ([]) w6).gr G8)
   refine qh 0 rfl rfl Z (fun w hS=>Zr rfl)<|Qj ?_
   exact⟨rfl,(!x8),Qi,hm,((Qw.gr G6).gr G8)⟩
 clear hm;rintro a4 w5 ⟨hm,K5⟩
 have aS:=K5.size
 unfold Qcm at hm
 refine Zh hm rfl (fun c3 hm=>?_) (fun c3 hm=>?_)
 · refine qs 1 rfl<|qm rfl<|Qa<|Qp<|Zk<|Xp ?_
   refine Xp<|Zk<|Xp ?_
   have aa:=(P.kz K5)
   cases hm
   exact⟨_,_,rfl,Qr rfl (Ql rfl),rfl,aa⟩
 refine Jb<|Xi<|Xa<|qg 3 rfl<|qm rfl<|qv rfl (Xn (k:=.i64) (a:=a3) (b:=1) rfl rfl)<|qm rfl ?_
 refine Qj ?_
 have K_21:Kz [] w3 w5:=(K4.kz K5)
 subst j
 exact⟨rfl,⟨n2,Qb (a3+1)⟩,Qi,⟨hm,K_21⟩,Nat.lt_succ_self _⟩
end Go.Proofs.YtopkalcefepilaaGreat.Mx
