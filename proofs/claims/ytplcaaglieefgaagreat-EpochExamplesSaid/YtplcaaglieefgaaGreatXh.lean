/- Walks that follow mirrors: Xh. Printed by mx.py. -/
import Derived.Test.YtplcaaglieefgaaGreatXg
import Derived.Test.YtplcaaglieefgaaGreatZd
set_option linter.unusedVariables false
set_option linter.unusedSimpArgs false
set_option maxRecDepth 100000
set_option maxHeartbeats 2000000
namespace Go.Proofs.YtplcaaglieefgaaGreat.Mx
open Go Go.RowKit Go.Sx
theorem Qx7:ZV Tryz.prog 186 (.agg [.slice none 0 0,.bool false].toArray):=fun _=>by kernel_rfl
theorem Qoq:BS Tryz.prog 186 (fun i=>[(0,1),(1,1)][i]?) [.slice none 0 0,.bool false]:=Hg Tryz.underlying186 Qx7 ⟨rfl,(Yo).siz,rfl,(Dm).siz,trivial⟩
theorem Ue:FA Tryz.prog 186 0 0:=fun _ _ _=>by kernel_rfl
theorem Ie:FA Tryz.prog 186 1 1:=fun _ _ _=>by kernel_rfl
theorem Qft:En Tryz.prog 92:=fun _ _=>by kernel_rfl
theorem Sm:En Tryz.prog 90:=fun _ _=>by kernel_rfl
theorem Qf9:CV Tryz.prog 22 3 .i64:=fun _ _ _=>by kernel_rfl
theorem Ru:En Tryz.prog 89:=fun _ _=>by kernel_rfl
theorem Qov:Hf Tryz.prog 54 0 5 1 []:=Qej Tryz.underlying54 (Zj).siz
theorem Qra:En Tryz.prog 91:=fun _ _=>by kernel_rfl
theorem Qrb:En Tryz.prog 93:=fun _ _=>by kernel_rfl
theorem Gu:En Tryz.prog 97:=fun _ _=>by kernel_rfl
theorem Qrc:En Tryz.prog 94:=fun _ _=>by kernel_rfl
theorem Qkz:En Tryz.prog 95:=fun _ _=>by kernel_rfl
theorem Ql0:En Tryz.prog 96:=fun _ _=>by kernel_rfl
theorem Qrj {p0 vp0_2 zp0_2 gp0_2 op0_2 vp0_4 zp0_4 gp0_4 op0_4 vp0_39 zp0_39 gp0_39 op0_39 r}(hm:Qg0 p0=some r){w:World}(i:Rd w zp0_2 gp0_2 op0_2 18 vp0_2 (p0.Head.Items.map Zc.cs))(j:Rd w zp0_4 gp0_4 op0_4 2 vp0_4 (p0.Head.Points.map Qx.cs))(g:Rd w zp0_39 gp0_39 op0_39 1 vp0_39 (p0.Data.map Xx)):
 Calls Tryz.prog 13 [.agg (Qo.cs p0 vp0_2 vp0_4 vp0_39).toArray].toArray w fun e w'=>∃ v,e=.returned v∧(∃ ur0_s zr0_s gr0_s,v=.tuple [ur0_s,.int .i64 r.2].toArray∧Qe w' zr0_s gr0_s 5 1 ur0_s (r.1.map Xx)∧Xk (zr0_s=0∨w.heap.size≤gr0_s)∧Gr w w'):=by
 have T:=i.lth
 have U:=j.lth
 have V:=g.lth
 unfold Qg0 at hm
 refine Xu 15 Tryz.func13 rfl rfl rfl<|qs 3 rfl<|qe rfl (Xp (cs:=Qo.cs p0 vp0_2 vp0_4 vp0_39) rfl rfl) ?_
 rintro _ w1 ⟨b1,rfl,Q,u,G1⟩
 have z4:=G1.size
 have W:=u.lt
 refine qn 2 rfl<|Qa<|Qj<|qs 3 rfl<|qv rfl (Qu Zl rfl u rfl) ?_
 have B6:=(i.gr G1)
 have B7:=(j.gr G1)
 have B8:=(g.gr G1)
 obtain⟨x1,C,hm⟩:=Qd hm
 refine qe rfl (eC Qfs rfl (Qfw C B6 B7 B8)) ?_
 rintro _ w2 ⟨rfl,G2⟩
 have z9:=G2.size
 refine qm rfl<|qd 2 rfl<|qm rfl<|qv rfl (Zp (a:=x1) (b:=0) rfl rfl)<|Qa ?_
 refine Zv hm rfl (fun c1 hm=>?_) (fun c1 hm=>?_)
 · refine qs 3 rfl<|qn 3 rfl<|Qa<|Qs ?_
   refine Zb ?_
   have D:=(((Gr.refl w).trans G1).trans G2)
   cases hm
   exact⟨_,_,rfl,Xy rfl (Qn rfl) (Qn rfl),(.slice none 0 0),0,0,rfl,(Za _ 0 5 1),⟨.inl rfl⟩,D⟩
 refine qu<|Qj<|dw [([])] [] (.leaf [(0,10),(2,10),(3,10),(1,0),(4,0),(5,10),(6,10)]) ?_
 intro w3 G3 X
 refine Xo ?_
 have Y1:=Gr.trans G2 G3
 have y:=(u.gr Y1)
 refine dh 0 rfl rfl (fun w hS=>Qu Zl rfl (Bx.kp y hS) rfl)<|dh 0 rfl rfl (fun w hS=>Qg Na rfl) ?_
 have t:=Qi0 (o:=40) (p:=p0.Mac) y rfl
 have R:=t.lth
 refine dh 0 rfl rfl (fun w hS=>Qir (n:=16) (l:=0) (h:=16) Tryz.underlying36 (Zj).siz rfl rfl rfl (by decide) (by decide) (by decide)) ?_
 have E:=(B6.gr Y1)
 have F:=(B7.gr Y1)
 have G:=(B8.gr Y1)
 obtain⟨x2,H,hm⟩:=Qd hm
 refine qz [] rfl (eC Rt rfl (Ba H E F G)) ⟨fun _=>Qb,trivial⟩ ?_
 rintro z w4 ⟨_,k,q,rfl,f,d,G4⟩
 have Y:=G4.size
 have S:=f.lth
 refine kG G4 ?_
 have I:=(t.gr G4)
 obtain⟨l3,J,hm⟩:=Qd hm
 refine qz [(k,q)] rfl (Wo (l:=x2) (m:=Jz p0.Mac) (c:=Xx) Tj rfl rfl f I J (by decide)) ⟨fun _=>(Qc (Qk (A:=(fun x=>w3.heap.size≤x)) d)),trivial⟩ ?_
 rintro K w5 ⟨L,M,N,s,Z,O⟩
 have aa:=s.size
 refine⟨Kz.ofKa s,?_⟩
 have B:=(((Kp.refl ([]) w3).gr G4).ka s (Qc (Qk (A:=(fun x=>w3.heap.size≤x)) d)))
 refine dn 0 rfl rfl B<|dn 0 rfl rfl B<|Qa<|Qs ?_
 have P:=(((((Gr.refl w).trans G1).trans Y1).trans G4).ka s (Qc (Qk (A:=(fun x=>w.heap.size≤x)) d)))
 cases hm
 exact⟨_,_,rfl,Xy rfl (Qn rfl) (Qn rfl),K,L,M,rfl,N,⟨(Yp (A:=(fun x=>w.heap.size≤x)) O (Qk (A:=(fun x=>w.heap.size≤x)) d))⟩,P⟩
theorem Qgd {p0 p1 bp0 vp0_0 zp0_0 gp0_0 op0_0 r}(hm:Av p0 p1=some r){w:World}(hbp0:Bx w bp0 186 (Zq.cs p0 vp0_0))(d:Rd w zp0_0 gp0_0 op0_0 1 vp0_0 (p0.b.map Xx))(g:Xk (zp0_0=0∨gp0_0≠bp0)):
 Calls Tryz.prog 92 [.pointer (some ⟨bp0,0,none⟩),.int .i64 p1].toArray w fun e w'=>∃ v,e=.returned v∧(∃ ur0_s zr0_s gr0_s or0_s ub1_0 zb1_0 gb1_0 ob1_0,v=ur0_s∧Rd w' zr0_s gr0_s or0_s 1 ur0_s (r.1.map Xx)∧Xk (zr0_s=0∨(gr0_s=gp0_0∧zp0_0≠0)∨w.heap.size≤gr0_s)∧Rd w' zb1_0 gb1_0 ob1_0 1 ub1_0 (r.2.b.map Xx)∧Xk (zb1_0=0∨(gb1_0=gp0_0∧zp0_0≠0)∨w.heap.size≤gb1_0)∧Bx w' bp0 186 (Zq.cs r.2 ub1_0)∧Kz [(1,bp0)] w w'):=by
 have h:=d.lth
 have E:=hbp0.lt
 unfold Av at hm
 refine Xu 37 Tryz.func92 rfl rfl rfl<|qs 1 rfl<|qm rfl<|Qa<|Qj<|Qj ?_
 refine qg 7 rfl<|qn 2 rfl<|qv rfl (Yy rfl rfl)<|qv rfl (Qg Ue rfl)<|qv rfl (Ql (v:=vp0_0) Yo rfl hbp0 rfl)<|qv rfl (Zx (l:=p0.b) (c:=Xx) Tryz.underlying54 rfl d) ?_
 refine qv rfl (Ve (a:=p1) (b:=(p0.b.length:Int)) rfl rfl)<|Qa<|Zv hm rfl (fun c1 hm=>?_) (fun c1 hm=>?_)
 · refine qs 8 rfl<|qn 2 rfl<|qv rfl (Yy rfl rfl)<|qv rfl (Qg Ie rfl)<|qe rfl (Js (cs':=Zq.cs (Zq.mk p0.b true) vp0_0) (Dm).siz rfl rfl rfl hbp0 rfl rfl) ?_
   rintro _ w1 ⟨k,M1⟩
   have z3:=M1.size
   refine qv rfl (Yy rfl rfl)<|qv rfl (Qg Ue rfl)<|qe rfl (Js (cs':=Zq.cs (Zq.mk [] true) (.slice none 0 0)) (Yo).siz rfl rfl rfl k rfl rfl) ?_
   rintro _ w2 ⟨m,M2⟩
   have z4:=M2.size
   refine qd 3 rfl<|qm rfl ?_
   obtain⟨l1,n,hm⟩:=Qd hm
   refine qe rfl (Az (c:=Xx) (a:=0#8) Tj Ft rfl ⟨rfl,rfl⟩ rfl n (by decide)) ?_
   rintro p w3 ⟨q,B,i,G3⟩
   have z5:=G3.size
   have F:=i.lth
   refine qm rfl<|qb ?_
   have B7:=(m.gr G3)
   have X8:=((((Kz.refl [(1,bp0)] w).md M1).md M2).gr G3)
   cases hm
   exact⟨_,_,rfl,Xj rfl (Qn rfl),p,1,q,0,(.slice none 0 0),0,0,0,rfl,(Qe.rd i),⟨(.inr Qb)⟩,(Qe.rd (Za _ 0 5 1)),⟨.inl rfl⟩,B7,X8⟩
 refine qu<|qs 7 rfl<|qm rfl<|qv rfl (Yy rfl rfl)<|qv rfl (Qg Ue rfl) ?_
 refine qv rfl (Ql (v:=vp0_0) Yo rfl hbp0 rfl)<|qm rfl ?_
 obtain⟨l2,s,hm⟩:=Qd hm
 refine qt rfl (Qe5 (P:=Tryz.prog) (lo:=0) (hi:=p1) (l:=p0.b) (c:=Xx) Tryz.underlying54 (Zj).siz rfl d rfl ⟨_,rfl⟩ s) ?_
 rintro v9 o9 R9
 have C:=R9.lth
 refine qm rfl<|qd 10 rfl<|qn 2 rfl<|qv rfl (Yy rfl rfl) ?_
 refine qv rfl (Qg Ue rfl)<|qv rfl (Ql (v:=vp0_0) Yo rfl hbp0 rfl)<|qm rfl ?_
 obtain⟨l3,t,hm⟩:=Qd hm
 refine qt rfl (Qe5 (P:=Tryz.prog) (lo:=p1) (hi:=(p0.b.length:Int)) (l:=p0.b) (c:=Xx) Tryz.underlying54 (Zj).siz rfl d ⟨_,rfl⟩ rfl t) ?_
 rintro j u f
 have D:=f.lth
 refine qv rfl (Yy rfl rfl)<|qv rfl (Qg Ue rfl)<|qe rfl (Js (cs':=Zq.cs (Zq.mk l3 p0.short) j) (Yo).siz rfl rfl (Rd.oneB f) hbp0 rfl rfl) ?_
 rintro _ w4 ⟨x,M4⟩
 have G:=M4.size
 refine qd 2 rfl<|qn 2 rfl<|Qa<|Qs ?_
 have y:=(R9.md M4 (Qc ((Jt h.o g.o):zp0_0=0∨gp0_0≠bp0)))
 have z:=(f.md M4 (Qc ((Jt h.o g.o):zp0_0=0∨gp0_0≠bp0)))
 have A:=((Kz.refl [(1,bp0)] w).md M4)
 cases hm
 exact⟨_,_,rfl,Xj rfl (Qn rfl),v9,zp0_0,gp0_0,o9,j,zp0_0,gp0_0,u,rfl,y,⟨Qb⟩,z,⟨Qb⟩,x,A⟩
theorem Ss {p0 p1 bp0 vp0_0 zp0_0 gp0_0 op0_0 r}(hm:Gw p0 p1=some r){w:World}(hbp0:Bx w bp0 186 (Zq.cs p0 vp0_0))(g:Rd w zp0_0 gp0_0 op0_0 1 vp0_0 (p0.b.map Xx))(y:Xk (zp0_0=0∨gp0_0≠bp0)):
 Calls Tryz.prog 90 [.pointer (some ⟨bp0,0,none⟩),.int .i64 p1].toArray w fun e w'=>∃ v,e=.returned v∧(∃ ub1_0 zb1_0 gb1_0 ob1_0,v=wv r.1∧Rd w' zb1_0 gb1_0 ob1_0 1 ub1_0 (r.2.b.map Xx)∧Xk (zb1_0=0∨(gb1_0=gp0_0∧zp0_0≠0)∨w.heap.size≤gb1_0)∧Bx w' bp0 186 (Zq.cs r.2 ub1_0)∧Kz [(1,bp0)] w w'):=by
 have z:=g.lth
 have M:=hbp0.lt
 unfold Gw at hm
 refine Xu 23 Tryz.func90 rfl rfl rfl<|qs 1 rfl<|qm rfl<|qd 1 rfl ?_
 refine qm rfl<|Qa<|Qj<|qs 5 rfl<|qn 2 rfl ?_
 obtain⟨x1,H,hm⟩:=Qd hm
 refine qe rfl (eC Qft rfl (Qgd H hbp0 g ⟨(Qc ((Jt z.o y.o):zp0_0=0∨gp0_0≠bp0))⟩)) ?_
 rintro B w1 ⟨_,C,D,E,h,j,m,n,rfl,d,F,f,p,s,K1⟩
 have z3:=K1.size
 have N:=d.lth
 have O:=f.lth
 refine qv rfl (Zx (l:=x1.1) (c:=Xx) Tryz.underlying54 rfl d)<|qm rfl<|Qa<|Xz ?_
 have X6:=((Kz.refl [(1,bp0)] w).kz K1)
 have B7:=(g.kz K1 (Qc ((Jt z.o y.o):zp0_0=0∨gp0_0≠bp0)))
 refine Kb (α:=Nat × BitVec 64 × Int) ([5,7]++rg 12 10) (fun⟨n1,a4,a5⟩=>[(5,wv a4),(12,.int .i64 a5)]) (fun⟨n1,a4,a5⟩ wr=>(Xq (Qc5 x1) n1 (a4,a5)=some r)∧Kz [] w1 wr) (fun⟨n1,a4,a5⟩=>n1) ⟨Ze,0#64,0⟩ ?_ ?_ ?_
 · exact Qh
 · exact⟨hm,Kz.refl _ _⟩
 clear hm;rintro⟨n1,a4,a5⟩ w2 ⟨hm,K2⟩
 have z8:=K2.size
 have hb:=Kd hm;clear hm;obtain⟨n1,rfl,hm⟩:=hb
 generalize t:Xq (Qc5 x1) n1=L at hm
 unfold Qc5 at hm
 try dsimp only at hm
 refine qs 1 rfl<|qv rfl (Jb (a:=a5) (b:=(x1.1.length:Int)) rfl rfl)<|Qa<|Qj<|Kg hm rfl (fun c1 hm=>?_) (fun c1 hm=>?_)
 · refine Jl<|Zd<|Zd<|Jk<|Zg<|qs 2 rfl ?_
   refine qn 2 rfl<|Qa<|Qs ?_
   have I:=(f.kz K2)
   have J:=(s.kz K2)
   have K:=(X6.kz K2)
   cases hm
   exact⟨_,_,rfl,Xj rfl (Qn rfl),h,j,m,n,rfl,I,⟨(Qv (A:=(fun x=>(x=gp0_0∧zp0_0≠0)∨w.heap.size≤x)) p Qb)⟩,J,K⟩
 refine qu<|Qj<|Xz<|qs 3 rfl ?_
 obtain⟨y6,G,hm⟩:=Qd hm
 have B9:=(d.kz K2)
 refine qv rfl (Vm (i:=a5) Tryz.underlying54 (Zj).siz rfl B9 rfl G)<|qv rfl (Pz (q:=0) (u:=bv y6) Zj rfl B9 G (by first|rfl|omega) rfl)<|qm rfl<|Qa<|qg 6 rfl<|qm rfl ?_
 obtain⟨nn7,hnn7,hm⟩:=Qd hm
 refine qv rfl (Qe3 (c:=a4) (b:=(un 8#64)) rfl rfl hnn7)<|qm rfl<|qv rfl (Eb Gs rfl)<|qv rfl (Fs (a:=a4 <<< nn7) (b:=y6.setWidth 64) rfl rfl)<|qm rfl<|Qi<|Zo ?_
 refine Zg<|qg 2 rfl<|qv rfl (Zy (k:=.i64) (a:=a5) (b:=1) rfl rfl)<|qm rfl<|Qi ?_
 have K_10:Kz [] w1 w2:=K2
 subst t
 exact⟨rfl,⟨n1,(a4 <<< nn7) ||| (y6.setWidth 64),Qp (a5+1)⟩,Qh,⟨hm,K_10⟩,Nat.lt_succ_self _⟩
theorem Bb {p0 bp0 vp0_0 zp0_0 gp0_0 op0_0 r}(hm:Ny p0=some r){w:World}(hbp0:Bx w bp0 186 (Zq.cs p0 vp0_0))(c:Rd w zp0_0 gp0_0 op0_0 1 vp0_0 (p0.b.map Xx))(k:Xk (zp0_0=0∨gp0_0≠bp0)):
 Calls Tryz.prog 89 [.pointer (some ⟨bp0,0,none⟩)].toArray w fun e w'=>∃ v,e=.returned v∧(∃ ub1_0 zb1_0 gb1_0 ob1_0,v=.int .i64 r.1∧Rd w' zb1_0 gb1_0 ob1_0 1 ub1_0 (r.2.b.map Xx)∧Xk (zb1_0=0∨(gb1_0=gp0_0∧zp0_0≠0)∨w.heap.size≤gb1_0)∧Bx w' bp0 186 (Zq.cs r.2 ub1_0)∧Kz [(1,bp0)] w w'):=by
 have l:=c.lth
 have n:=hbp0.lt
 unfold Ny at hm
 refine Xu 6 Tryz.func89 rfl rfl rfl<|qs 1 rfl<|qm rfl<|qd 4 rfl ?_
 refine qm rfl ?_
 obtain⟨x1,m,hm⟩:=Qd hm
 refine qe rfl (eC Sm rfl (Ss m hbp0 c ⟨(Qc ((Jt l.o k.o):zp0_0=0∨gp0_0≠bp0))⟩)) ?_
 rintro _ w1 ⟨d,f,g,h,rfl,a,i,j,K1⟩
 have z3:=K1.size
 have p:=a.lth
 refine qv rfl (Fo Qf9 rfl)<|qm rfl<|Qa<|Qs ?_
 have X5:=((Kz.refl [(1,bp0)] w).kz K1)
 cases hm
 exact⟨_,_,rfl,Xj rfl (Qn rfl),d,f,g,h,rfl,a,⟨(Qv (A:=(fun x=>(x=gp0_0∧zp0_0≠0)∨w.heap.size≤x)) i Qb)⟩,j,X5⟩
theorem Qv4 {p0 vp0 zp0 gp0 op0 r}(hm:Qib p0=some r){w:World}(a:Rd w zp0 gp0 op0 1 vp0 (p0.map Xx)):
 Calls Tryz.prog 91 [vp0].toArray w fun e w'=>∃ v,e=.returned v∧(∃ ur0_s zr0_s gr0_s,v=ur0_s∧Qe w' zr0_s gr0_s 5 1 ur0_s (r.map Xx)∧Xk (zr0_s=0∨w.heap.size≤gr0_s)∧Gr w w'):=by
 have t:=a.lth
 unfold Qib at hm
 refine Xu 8 Tryz.func91 rfl rfl rfl<|qs 1 rfl<|qm rfl<|Qa<|Qj<|Qj ?_
 refine qg 2 rfl<|qm rfl ?_
 rcases Qi1 a with⟨g,b,h⟩|⟨u,y,g,b⟩
 · replace hm:(some [])=some r:=by rw[h] at hm;exact hm
   refine qv rfl (Ec Tryz.underlying54 rfl b)<|Qa<|Td rfl<|qs 1 rfl<|qm rfl<|Qa ?_
   refine Qs<|Zb ?_
   cases hm
   exact⟨_,_,rfl,Xj rfl (Qn rfl),(.slice none 0 0),0,0,rfl,(Za _ 0 5 1),⟨.inl rfl⟩,(Gr.refl w)⟩
 skip
 refine qv rfl (Ec Tryz.underlying54 rfl b)<|Qa<|Gi rfl<|qu<|qs 4 rfl ?_
 refine qe rfl (Ko ([]:List (BitVec 8)) Xx Qov rfl rfl (Ks rfl) rfl rfl rfl) ?_
 rintro z w1 ⟨i,s,d,G1⟩
 have z3:=G1.size
 have B:=d.lth
 refine qm rfl ?_
 have B5:=(a.gr G1)
 obtain⟨l1,j,hm⟩:=Qd hm
 refine qe rfl (Wo (l:=([]:List (BitVec 8))) (m:=p0) (c:=Xx) Tj rfl rfl d B5 j (by decide)) ?_
 rintro k w2 ⟨n,o,p,f,C,q⟩
 have z6:=f.size
 refine qm rfl<|Qa<|Qs ?_
 have X7:=(((Gr.refl w).trans G1).ka f (Qc ((.inr Qb):1=0∨w.heap.size≤i)))
 cases hm
 exact⟨_,_,rfl,Xj rfl (Qn rfl),k,n,o,rfl,p,⟨(Yp (A:=(fun x=>w.heap.size≤x)) q (.inr Qb))⟩,X7⟩
theorem Gv {p0 bp0 vp0_0 zp0_0 gp0_0 op0_0 r}(hm:Dw p0=some r){w:World}(hbp0:Bx w bp0 186 (Zq.cs p0 vp0_0))(f:Rd w zp0_0 gp0_0 op0_0 1 vp0_0 (p0.b.map Xx))(C:Xk (zp0_0=0∨gp0_0≠bp0)):
 Calls Tryz.prog 97 [.pointer (some ⟨bp0,0,none⟩)].toArray w fun e w'=>∃ v,e=.returned v∧(∃ ub1_0 zb1_0 gb1_0 ob1_0,v=kv r.1∧Rd w' zb1_0 gb1_0 ob1_0 1 ub1_0 (r.2.b.map Xx)∧Xk (zb1_0=0∨(gb1_0=gp0_0∧zp0_0≠0)∨w.heap.size≤gb1_0)∧Bx w' bp0 186 (Zq.cs r.2 ub1_0)∧Kz [(1,bp0)] w w'):=by
 have m:=f.lth
 have K:=hbp0.lt
 unfold Dw at hm
 refine Xu 7 Tryz.func97 rfl rfl rfl<|qs 1 rfl<|qe rfl (Qz (cs:=kb k0) Jq rfl) ?_
 rintro _ w1 ⟨b1,rfl,J,q,G1⟩
 have z3:=G1.size
 have L:=q.lt
 refine qd 5 rfl<|qm rfl ?_
 have B5:=(hbp0.gr G1)
 have B6:=(f.gr G1)
 obtain⟨x1,D,hm⟩:=Qd hm
 refine qe rfl (eC Qft rfl (Qgd D B5 B6 ⟨(Qc ((Jt m.o C.o):zp0_0=0∨gp0_0≠bp0))⟩)) ?_
 rintro s w2 ⟨_,t,u,y,g,h,i,j,rfl,a,z,c,d,k,K2⟩
 have z7:=K2.size
 have M:=a.lth
 have N:=c.lth
 obtain⟨x2,B,hm⟩:=Qd hm
 refine qv rfl (Qwz (n:=0) (l:=x1.1) Tryz.underlying36 rfl a B)<|qv rfl (Qx0 (l:=x1.1) (p:=x2) Qy rfl a B) ?_
 have E:=(q.kz K2)
 refine qe rfl (Qr Qy rfl rfl rfl E rfl rfl) ?_
 rintro _ w3 ⟨F,M3⟩
 have O:=M3.size
 refine Qa<|Qs ?_
 have G:=(c.md M3 (Qf d (Qm m)))
 have H:=(k.md M3)
 have I:=((((Kz.refl [(1,bp0)] w).gr G1).kz K2).md M3)
 cases hm
 exact⟨_,_,rfl,Xj rfl (Zf Qy rfl F rfl),g,h,i,j,rfl,G,⟨(Qv (A:=(fun x=>(x=gp0_0∧zp0_0≠0)∨w.heap.size≤x)) d Qb)⟩,H,I⟩
theorem Qrt {p0 bp0 vp0_0 zp0_0 gp0_0 op0_0 r}(hm:Qgc p0=some r){w:World}(hbp0:Bx w bp0 186 (Zq.cs p0 vp0_0))(i:Rd w zp0_0 gp0_0 op0_0 1 vp0_0 (p0.b.map Xx))(p:Xk (zp0_0=0∨gp0_0≠bp0)):
 Calls Tryz.prog 94 [.pointer (some ⟨bp0,0,none⟩)].toArray w fun e w'=>∃ v,e=.returned v∧(∃ ub1_0 zb1_0 gb1_0 ob1_0,v=.agg (Zc.cs r.1).toArray∧Rd w' zb1_0 gb1_0 ob1_0 1 ub1_0 (r.2.b.map Xx)∧Xk (zb1_0=0∨(gb1_0=gp0_0∧zp0_0≠0)∨w.heap.size≤gb1_0)∧Bx w' bp0 186 (Zq.cs r.2 ub1_0)∧Kz [(1,bp0)] w w'):=by
 have n:=i.lth
 have S:=hbp0.lt
 unfold Qgc at hm
 refine Xu 11 Tryz.func94 rfl rfl rfl<|qs 1 rfl<|qe rfl (Qz (cs:=Zc.cs (Zc.mk (Xs.mk 0 0) k0)) Ou rfl) ?_
 rintro _ w1 ⟨b1,rfl,P,u,G1⟩
 have z3:=G1.size
 have T:=u.lt
 refine qd 9 rfl<|qm rfl ?_
 have B5:=(hbp0.gr G1)
 have B6:=(i.gr G1)
 obtain⟨x1,H,hm⟩:=Qd hm
 refine qe rfl (eC Ru rfl (Bb H B5 B6 ⟨(Qc ((Jt n.o p.o):zp0_0=0∨gp0_0≠bp0))⟩)) ?_
 rintro _ w2 ⟨y,z,B,C,rfl,d,a,q,K2⟩
 have z7:=K2.size
 have U:=d.lth
 refine qm rfl ?_
 obtain⟨x2,I,hm⟩:=Qd hm
 refine qe rfl (eC Ru rfl (Bb I q d ⟨(Qc (Qf (b:=bp0) a (Jt n.o p.o)))⟩)) ?_
 rintro _ w3 ⟨D,E,F,G,rfl,f,c,s,K3⟩
 have z9:=K3.size
 have Q:=f.lth
 refine qv rfl (Zk (cs:=Xs.cs (Xs.mk x1.1 x2.1)) Ek rfl rfl)<|qm rfl ?_
 obtain⟨x3,J,hm⟩:=Qd hm
 refine qe rfl (eC Gu rfl (Gv J s f ⟨(Qc (Qf (b:=bp0) c (Qf a (Jt n.o p.o))))⟩)) ?_
 rintro _ w4 ⟨j,k,l,m,rfl,g,h,t,K4⟩
 have V:=K4.size
 have R:=g.lth
 refine qv rfl (Zk (cs:=Zc.cs (Zc.mk (Xs.mk x1.1 x2.1) x3.1)) Qj7 rfl (Wa rfl rfl rfl (Wa rfl rfl rfl (by kernel_rfl)))) ?_
 have K:=(((u.kz K2).kz K3).kz K4)
 refine qe rfl (Qr Wl rfl rfl rfl K rfl rfl) ?_
 rintro _ w5 ⟨L,M5⟩
 have W:=M5.size
 refine Qa<|Qs ?_
 have M:=(g.md M5 (Qf h (Qf c (Qf a (Qm n)))))
 have N:=(t.md M5)
 have O:=((((((Kz.refl [(1,bp0)] w).gr G1).kz K2).kz K3).kz K4).md M5)
 cases hm
 exact⟨_,_,rfl,Xj rfl (Zf Wl rfl L rfl),j,k,l,m,rfl,M,⟨(Qv (A:=(fun x=>(x=gp0_0∧zp0_0≠0)∨w.heap.size≤x)) h (Qv (A:=(fun x=>(x=gp0_0∧zp0_0≠0)∨w.heap.size≤x)) c (Qv (A:=(fun x=>(x=gp0_0∧zp0_0≠0)∨w.heap.size≤x)) a Qb)))⟩,N,O⟩
theorem Ql9 {p0 bp0 vp0_0 zp0_0 gp0_0 op0_0 r}(hm:Qc6 p0=some r){w:World}(hbp0:Bx w bp0 186 (Zq.cs p0 vp0_0))(g:Rd w zp0_0 gp0_0 op0_0 1 vp0_0 (p0.b.map Xx))(p:Xk (zp0_0=0∨gp0_0≠bp0)):
 Calls Tryz.prog 96 [.pointer (some ⟨bp0,0,none⟩)].toArray w fun e w'=>∃ v,e=.returned v∧(∃ ub1_0 zb1_0 gb1_0 ob1_0,v=.agg (Qx.cs r.1).toArray∧Rd w' zb1_0 gb1_0 ob1_0 1 ub1_0 (r.2.b.map Xx)∧Xk (zb1_0=0∨(gb1_0=gp0_0∧zp0_0≠0)∨w.heap.size≤gb1_0)∧Bx w' bp0 186 (Zq.cs r.2 ub1_0)∧Kz [(1,bp0)] w w'):=by
 have l:=g.lth
 have J:=hbp0.lt
 unfold Qc6 at hm
 refine Xu 8 Tryz.func96 rfl rfl rfl<|qs 1 rfl<|qe rfl (Qz (cs:=Qx.cs (Qx.mk 0#64 0#64)) Fu rfl) ?_
 rintro _ w1 ⟨b1,rfl,H,q,G1⟩
 have z3:=G1.size
 have K:=q.lt
 refine qd 6 rfl<|qm rfl ?_
 have B5:=(hbp0.gr G1)
 have B6:=(g.gr G1)
 obtain⟨x1,z,hm⟩:=Qd hm
 refine qe rfl (eC Sm rfl (Ss z B5 B6 ⟨(Qc ((Jt l.o p.o):zp0_0=0∨gp0_0≠bp0))⟩)) ?_
 rintro _ w2 ⟨s,t,u,y,rfl,c,a,m,K2⟩
 have z7:=K2.size
 have L:=c.lth
 refine qm rfl ?_
 obtain⟨x2,B,hm⟩:=Qd hm
 refine qe rfl (eC Sm rfl (Ss B m c ⟨(Qc (Qf (b:=bp0) a (Jt l.o p.o)))⟩)) ?_
 rintro _ w3 ⟨h,i,j,k,rfl,d,f,n,K3⟩
 have z9:=K3.size
 have I:=d.lth
 refine qv rfl (Zk (cs:=Qx.cs (Qx.mk x1.1 x2.1)) Cs rfl rfl) ?_
 have C:=((q.kz K2).kz K3)
 refine qe rfl (Qr Vq rfl rfl rfl C rfl rfl) ?_
 rintro _ w4 ⟨D,M4⟩
 have M:=M4.size
 refine Qa<|Qs ?_
 have E:=(d.md M4 (Qf f (Qf a (Qm l))))
 have F:=(n.md M4)
 have G:=(((((Kz.refl [(1,bp0)] w).gr G1).kz K2).kz K3).md M4)
 cases hm
 exact⟨_,_,rfl,Xj rfl (Zf Vq rfl D rfl),h,i,j,k,rfl,E,⟨(Qv (A:=(fun x=>(x=gp0_0∧zp0_0≠0)∨w.heap.size≤x)) f (Qv (A:=(fun x=>(x=gp0_0∧zp0_0≠0)∨w.heap.size≤x)) a Qb))⟩,F,G⟩
theorem Qrh {p0 vp0 zp0 gp0 op0 r}(hm:Qfy p0=some r){w:World}(fb:Rd w zp0 gp0 op0 1 vp0 (p0.map Xx)):
 Calls Tryz.prog 41 [vp0].toArray w fun e w'=>∃ v,e=.returned v∧(∃ ur0_2 zr0_2 gr0_2 ur0_4 zr0_4 gr0_4 ur0_39 zr0_39 gr0_39,v=.tuple [.agg (Qo.cs r.1 ur0_2 ur0_4 ur0_39).toArray,.int .i64 r.2].toArray∧Qe w' zr0_2 gr0_2 195 18 ur0_2 (r.1.Head.Items.map Zc.cs)∧Xk (zr0_2=0∨w.heap.size≤gr0_2)∧Qe w' zr0_4 gr0_4 65 2 ur0_4 (r.1.Head.Points.map Qx.cs)∧Xk (zr0_4=0∨w.heap.size≤gr0_4)∧Qe w' zr0_39 gr0_39 5 1 ur0_39 (r.1.Data.map Xx)∧Xk (zr0_39=0∨w.heap.size≤gr0_39)∧Xk (zr0_4=0∨zr0_2=0∨gr0_4≠gr0_2)∧Xk (zr0_39=0∨zr0_2=0∨gr0_39≠gr0_2)∧Xk (zr0_39=0∨zr0_4=0∨gr0_39≠gr0_4)∧Gr w w'):=by
 have u:=fb.lth
 unfold Qfy at hm
 refine Xu 85 Tryz.func41 rfl rfl rfl<|qs 2 rfl<|qe rfl (Qz (cs:=Qo.cs (Qo.mk 0#8 0 (Qq.mk [] 0#64 [] k0 k0) 0#8 0#64 [] k0) (.slice none 0 0) (.slice none 0 0) (.slice none 0 0)) Km rfl) ?_
 rintro _ w1 ⟨b1,rfl,iA,cQ,G1⟩
 have z2:=G1.size
 have jZ:=cQ.lt
 refine qm rfl<|qd 4 rfl<|qm rfl ?_
 have B4:=(fb.gr G1)
 refine qv rfl (Zk (cs:=Zq.cs (Zq.mk p0 false) vp0) Qoq rfl (Qsi rfl (Rd.oneB B4) rfl rfl))<|qe rfl (Xp (cs:=Zq.cs (Zq.mk p0 false) vp0) rfl rfl) ?_
 rintro _ w2 ⟨b2,rfl,iB,fc,G2⟩
 have z5:=G2.size
 have j0:=fc.lt
 refine qm rfl<|qd 6 rfl<|qm rfl ?_
 have B7:=(B4.gr G2)
 obtain⟨x1,hn,hm⟩:=Qd hm
 refine qe rfl (eC Ru rfl (Bb hn fc B7 ⟨(Qc (Qm (b:=b2) u))⟩)) ?_
 rintro _ w3 ⟨fd,i,j,fe,rfl,aB,h,cx,K3⟩
 have z8:=K3.size
 have D:=aB.lth
 refine qv rfl (Qin Qfa rfl)<|qv rfl (Zk (cs:=Qo.cs (Qo.mk (Kl x1.1) 0 (Qq.mk [] 0#64 [] k0 k0) 0#8 0#64 [] k0) (.slice none 0 0) (.slice none 0 0) (.slice none 0 0)) Nr rfl (by kernel_rfl))<|qe rfl (Qz (cs:=Qo.cs (Qo.mk 0#8 0 (Qq.mk [] 0#64 [] k0 k0) 0#8 0#64 [] k0) (.slice none 0 0) (.slice none 0 0) (.slice none 0 0)) Km rfl) ?_
 rintro _ w4 ⟨b4,rfl,iC,ff,G4⟩
 have j1:=G4.size
 have iD:=ff.lt
 refine qe rfl (Qr Zl rfl rfl (Qo.cs_ones _ _ _ _ rfl rfl rfl) ff rfl rfl) ?_
 rintro _ w5 ⟨d3,M5⟩
 have j2:=M5.size
 refine Qa ?_
 have d4:=((((((Gr.refl w).trans G1).trans G2).kz K3).trans G4).md M5)
 refine qj (β:=Zq × Int × List Zc × BitVec 64 × List Qx × W2 × W2 × BitVec 8 × BitVec 64 × List (BitVec 8) × Value × Nat × Nat × Nat × Value × Nat × Nat × Value × Nat × Nat × Value × Nat × Nat) ([3,6]++rg 14 49) (fun⟨a2,a4,a5,a6,a7,a8,a9,bQ,bR,bE,vy3,zy3,gy3,oy3,vy13,zy13,gy13,vy14,zy14,gy14,vy15,zy15,gy15⟩=>[(3,.int .i64 0)]) (fun⟨a2,a4,a5,a6,a7,a8,a9,bQ,bR,bE,vy3,zy3,gy3,oy3,vy13,zy13,gy13,vy14,zy14,gy14,vy15,zy15,gy15⟩ wr=>(Ry x1 a2 a4 a5 a6 a7 a8 a9 bQ bR bE=some r)∧Rd wr zy3 gy3 oy3 1 vy3 (a2.b.map Xx)∧Xk (zy3=0∨(gy3=j∧i≠0)∨w5.heap.size≤gy3)∧Qe wr zy13 gy13 195 18 vy13 (a5.map Zc.cs)∧Xk (zy13=0∨w5.heap.size≤gy13)∧Qe wr zy14 gy14 65 2 vy14 (a7.map Qx.cs)∧Xk (zy14=0∨w5.heap.size≤gy14)∧Qe wr zy15 gy15 5 1 vy15 (bE.map Xx)∧Xk (zy15=0∨w5.heap.size≤gy15)∧Xk (zy13=0∨zy3=0∨gy13≠gy3)∧Xk (zy14=0∨zy3=0∨gy14≠gy3)∧Xk (zy14=0∨zy13=0∨gy14≠gy13)∧Xk (zy15=0∨zy3=0∨gy15≠gy3)∧Xk (zy15=0∨zy13=0∨gy15≠gy13)∧Xk (zy15=0∨zy14=0∨gy15≠gy14)∧Bx wr b2 186 (Zq.cs a2 vy3)∧Bx wr b4 56 (Qo.cs (Qo.mk (Kl x1.1) a4 (Qq.mk a5 a6 a7 a8 a9) bQ bR bE k0) vy13 vy14 vy15)∧Kz [(1,b2),(1,b4)] w5 wr) ?_ ?_
 · refine qs 3 rfl<|qv rfl (Qg Ih rfl)<|qv rfl (Ql (v:=bv (Kl x1.1)) Zj rfl d3 rfl)<|qv rfl (Pb (p:=Kl x1.1) (q:=2#8) rfl rfl)<|Qa<|Zv hm rfl (fun c4 hm=>?_) (fun c4 hm=>?_)
   · refine qs 9 rfl<|qm rfl ?_
     have ho:=((cx.gr G4).md M5)
     have hp:=((aB.gr G4).md M5 (Qm D))
     obtain⟨cR,fg,hm⟩:=Qd hm
     refine qe rfl (eC Ru rfl (Bb fg ho hp ⟨(Qc (Qf (b:=b2) h (Qm u)))⟩)) ?_
     rintro _ j3 ⟨ep,er,es,et,rfl,aN,H,cS,d5⟩
     have j4:=d5.size
     have iE:=aN.lth
     refine qv rfl (Qin Qfa rfl)<|qm rfl ?_
     obtain⟨d6,fh,hm⟩:=Qd hm
     refine qe rfl (eC Sm rfl (Ss fh cS aN ⟨(Qc (Qf (b:=b2) H (Qf h (Qm u))))⟩)) ?_
     rintro _ j5 ⟨eu,ew,ex,ey,rfl,aO,J,cT,d7⟩
     have j6:=d7.size
     have iG:=aO.lth
     refine qv rfl (Qg Ii rfl) ?_
     have hq:=((d3.kz d5).kz d7)
     refine qe rfl (Js (cs':=Qo.cs (Qo.mk (Kl x1.1) 0 (Qq.mk [] 0#64 [] k0 k0) (Kl cR.1) 0#64 [] k0) (.slice none 0 0) (.slice none 0 0) (.slice none 0 0)) (Zj).siz rfl rfl rfl hq rfl rfl) ?_
     rintro _ j7 ⟨fi,cU⟩
     have j8:=cU.size
     refine qv rfl (Qg Qcf rfl)<|qe rfl (Js (cs':=Qo.cs (Qo.mk (Kl x1.1) 0 (Qq.mk [] 0#64 [] k0 k0) (Kl cR.1) d6.1 [] k0) (.slice none 0 0) (.slice none 0 0) (.slice none 0 0)) (Zh).siz rfl rfl rfl fi rfl rfl) ?_
     rintro _ j9 ⟨fj,cV⟩
     have kc:=cV.size
     refine Qa<|qg 8 rfl<|qn 2 rfl ?_
     have hr:=((cT.md cU).md cV)
     have ht:=((aO.md cU (Qf J (Qf H (Qm D)))).md cV (Qf J (Qf H (Qm D))))
     obtain⟨kd,fk,hm⟩:=Qd hm
     refine qe rfl (eC Sm rfl (Ss fk hr ht ⟨(Qc (Qf (b:=b2) J (Qf H (Qf h (Qm u)))))⟩)) ?_
     rintro _ ke ⟨ez,eA,eB,eD,rfl,aP,af,cW,d8⟩
     have kf:=d8.size
     have iH:=aP.lth
     refine qv rfl (Fo Qf9 rfl) ?_
     obtain⟨hu,fl,hm⟩:=Qd hm
     refine qe rfl (eC Qft rfl (Qgd fl cW aP ⟨(Qc (Qf (b:=b2) af (Qf J (Qf H (Qf h (Qm u))))))⟩)) ?_
     rintro eE kg ⟨_,eF,eG,eH,bS,aQ,aR,bT,rfl,aS,eI,aT,aU,cX,d9⟩
     have kh:=d9.size
     have iI:=aS.lth
     have fm:=aT.lth
     obtain⟨fn,fo,hm⟩:=Qd hm
     refine qe rfl (eC Qra rfl (Qv4 fo aS)) ?_
     rintro aV ki ⟨_,bU,bV,rfl,ag,ah,cy⟩
     have kj:=cy.size
     have iJ:=ag.lth
     refine qv rfl (Qg Sy rfl) ?_
     have hw:=(((fj.kz d8).kz d9).gr cy)
     refine qe rfl (Js (cs':=Qo.cs (Qo.mk (Kl x1.1) 0 (Qq.mk [] 0#64 [] k0 k0) (Kl cR.1) d6.1 fn k0) (.slice none 0 0) (.slice none 0 0) aV) (Yo).siz rfl rfl (Qe.oneB ag) hw rfl rfl) ?_
     rintro _ hy ⟨fp,cz⟩
     have kk:=cz.size
     refine Qi ?_
     have K_69:Kz [(1,b2),(1,b4)] w5 hy:=((((((((Kz.kz (Kz.refl _ _) d5).kz d7).md cU).md cV).kz d8).kz d9).gr cy).md cz)
     have hz:=((aT.gr cy).md cz (Qf aU (Qf af (Qf J (Qf H (Qm D))))))
     have hA:=(ag.md cz (Qt ah))
     have hB:=((cX.gr cy).md cz)
     exact⟨rfl,⟨hu.2,0,[],0#64,[],k0,k0,Kl cR.1,d6.1,fn,bS,aQ,aR,bT,(.slice none 0 0),0,0,(.slice none 0 0),0,0,aV,bU,bV⟩,Qh,hm,hz,⟨(Qv (A:=(fun x=>(x=j∧i≠0)∨w5.heap.size≤x)) aU (Qv (A:=(fun x=>(x=j∧i≠0)∨w5.heap.size≤x)) af (Qv (A:=(fun x=>(x=j∧i≠0)∨w5.heap.size≤x)) J (Qv (A:=(fun x=>(x=j∧i≠0)∨w5.heap.size≤x)) H Qb))))⟩,(Za _ 0 195 18),⟨(.inl rfl)⟩,(Za _ 0 65 2),⟨(.inl rfl)⟩,hA,⟨(Qk (A:=(fun x=>w5.heap.size≤x)) ah)⟩,⟨(.inl rfl)⟩,⟨(.inl rfl)⟩,⟨(.inl rfl)⟩,⟨(Qk (A:=(fun x=>aQ=0∨x≠aR)) ah (fun x hx=>(Qc fm.o)))⟩,⟨(.inr (.inl rfl))⟩,⟨(.inr (.inl rfl))⟩,hB,fp,K_69⟩
   refine qs 3 rfl<|qm rfl ?_
   have hC:=((cx.gr G4).md M5)
   have fq:=((aB.gr G4).md M5 (Qm D))
   obtain⟨G,fr,hm⟩:=Qd hm
   refine qe rfl (eC Sm rfl (Ss fr hC fq ⟨(Qc (Qf (b:=b2) h (Qm u)))⟩)) ?_
   rintro _ kl ⟨eJ,eK,eL,eM,rfl,aW,f,cY,aC⟩
   have km:=aC.size
   have iK:=aW.lth
   refine qm rfl<|Qa<|Qj<|qs 2 rfl<|qm rfl<|qv rfl (Qe1 (c:=G.1) (d:=1099511627776#64) rfl rfl) ?_
   refine Qa<|Zv hm rfl (fun c5 hm=>?_) (fun c5 hm=>?_)
   · refine qs 3 rfl<|qv rfl (Zk (cs:=Qo.cs (Qo.mk 0#8 0 (Qq.mk [] 0#64 [] k0 k0) 0#8 0#64 [] k0) (.slice none 0 0) (.slice none 0 0) (.slice none 0 0)) Nr rfl (by kernel_rfl)) ?_
     have hD:=(((((cQ.gr G2).kz K3).gr G4).md M5).kz aC)
     refine qe rfl (Qr Zl rfl rfl (Qo.cs_ones _ _ _ _ rfl rfl rfl) hD rfl rfl) ?_
     rintro _ ko ⟨fs,ft⟩
     have kq:=ft.size
     refine qm rfl<|qb<|Zb ?_
     have hE:=((d4.kz aC).md ft)
     cases hm
     exact⟨_,_,rfl,Xy rfl (Zf Zl rfl fs rfl) (Qn rfl),(.slice none 0 0),0,0,(.slice none 0 0),0,0,(.slice none 0 0),0,0,rfl,(Za _ 0 195 18),⟨.inl rfl⟩,(Za _ 0 65 2),⟨.inl rfl⟩,(Za _ 0 5 1),⟨.inl rfl⟩,⟨(.inl rfl)⟩,⟨(.inl rfl)⟩,⟨(.inl rfl)⟩,hE⟩
   refine qu<|qs 4 rfl<|qm rfl<|qv rfl (Fo Qf9 rfl)<|qv rfl (Qg La rfl) ?_
   have hF:=(d3.kz aC)
   refine qe rfl (Js (cs':=Qo.cs (Qo.mk (Kl x1.1) (Qp (un G.1)) (Qq.mk [] 0#64 [] k0 k0) 0#8 0#64 [] k0) (.slice none 0 0) (.slice none 0 0) (.slice none 0 0)) (Xm).siz rfl rfl rfl hF rfl rfl) ?_
   rintro _ kr ⟨dQ,aK⟩
   have kt:=aK.size
   refine qd 7 rfl<|qn 2 rfl<|qv rfl (Da rfl rfl)<|Lr 21 Tryz.func93 rfl rfl rfl Qrb rfl rfl rfl rfl rfl ?_
   refine qs 1 rfl<|qm rfl<|qd 1 rfl<|qm rfl ?_
   refine Qa<|Qj<|qs 3 rfl<|qm rfl ?_
   have hG:=(cY.md aK)
   have fu:=(aW.md aK (Qf f (Qm D)))
   obtain⟨cZ,fv,hm⟩:=Qd hm
   refine qe rfl (eC Ru rfl (Bb fv hG fu ⟨(Qc (Qf (b:=b2) f (Qf h (Qm u))))⟩)) ?_
   rintro _ bp ⟨bW,R,S,bX,rfl,T,g,c0,aD⟩
   have ku:=aD.size
   have iL:=T.lth
   refine qm rfl<|Qa<|Xz ?_
   have fw:=(((d4.kz aC).md aK).kz aD)
   have fx:=((((((B7.kz K3 (Qc (Qm (b:=b2) u))).gr G4).md M5 (Qm u)).kz aC (Qc (Qm (b:=b2) u))).md aK (Qm u)).kz aD (Qc (Qm (b:=b2) u)))
   have fy:=(((fq.kz aC (Qc (Qf (b:=b2) h (Qm u)))).md aK (Qm D)).kz aD (Qc (Qf (b:=b2) h (Qm u))))
   have fz:=(fu.kz aD (Qc (Qf (b:=b2) f (Qf h (Qm u)))))
   refine Kb (α:=Nat × List Zc × Int × Zq × Value × Nat × Nat × Value × Nat × Nat × Nat) ([4,5]++rg 8 12) (fun⟨n3,P,bz,bF,vy32,zy32,gy32,vy35,zy35,gy35,oy35⟩=>[(4,.slice none 0 0),(5,vy32),(8,.int .i64 bz)]) (fun⟨n3,P,bz,bF,vy32,zy32,gy32,vy35,zy35,gy35,oy35⟩ wr=>(Xq (Qbg x1 G cZ) n3 (P,bz,bF)=some r)∧Qe wr zy32 gy32 195 18 vy32 (P.map Zc.cs)∧Xk (zy32=0∨bp.heap.size≤gy32)∧Rd wr zy35 gy35 oy35 1 vy35 (bF.b.map Xx)∧Xk (zy35=0∨(gy35=S∧R≠0)∨bp.heap.size≤gy35)∧Xk (zy35=0∨zy32=0∨gy35≠gy32)∧Bx wr b2 186 (Zq.cs bF vy35)∧Kz [(1,b2)] bp wr) (fun⟨n3,P,bz,bF,vy32,zy32,gy32,vy35,zy35,gy35,oy35⟩=>n3) ⟨Ze,[],0,cZ.2,(.slice none 0 0),0,0,bW,R,S,bX⟩ ?_ ?_ ?_
   · exact Qh
   · exact⟨hm,(Za _ 0 195 18),⟨(.inl rfl)⟩,T,⟨Qb⟩,⟨(.inr (.inl rfl))⟩,c0,Kz.refl _ _⟩
   clear hm;rintro⟨n3,P,bz,bF,vy32,zy32,gy32,vy35,zy35,gy35,oy35⟩ kw ⟨hm,ab,s,av,n,aw,ac,Q⟩
   have kx:=Q.size
   have L:=ab.lth
   have iM:=av.lth
   have iN:=ac.lt
   have hb:=Kd hm;clear hm;obtain⟨n3,rfl,hm⟩:=hb
   generalize ea:Xq (Qbg x1 G cZ) n3=iO at hm
   unfold Qbg at hm
   try dsimp only at hm
   refine qs 1 rfl<|qv rfl (Jb (a:=bz) (b:=cZ.1) rfl rfl)<|Qa<|Qj<|Zv hm rfl (fun c6 hm=>?_) (fun c6 hm=>?_)
   · refine qu<|Qj<|Xz<|Qj<|qs 4 rfl ?_
     refine qm rfl<|qv rfl (Yy rfl rfl)<|qv rfl (Qg Ie rfl)<|qv rfl (Ql (v:=.bool bF.short) Dm rfl ac rfl)<|Qa<|Nt hm rfl (fun c7 hm=>?_) (fun c7 hm=>?_)
     · refine qu<|qg 6 rfl<|qn 2 rfl ?_
       obtain⟨eb,fA,hm⟩:=Qd hm
       refine qe rfl (Vk Qrc rfl rfl (Qrt fA ac av ⟨(Qc (Qf (b:=b2) n (Qf g (Qf f (Qf h (Qm u))))))⟩)) ?_
       rintro _ ky ⟨bY,aX,aY,bZ,rfl,aZ,ai,da,ec⟩
       have iP:=ec.size
       have ed:=aZ.lth
       refine qe rfl (Ko [eb.1] Zc.cs Qj9 rfl rfl (Ks rfl) rfl rfl rfl) ?_
       rintro iQ kA ⟨iR,hH,dR,cA⟩
       have iS:=cA.size
       have hI:=dR.lth
       have fB:=((ab.kz ec (Qc (Qt (b:=b2) s))).gr cA)
       obtain⟨hJ,fC,hm⟩:=Qd hm
       refine qe rfl (Wo (l:=P) (m:=[eb.1]) (c:=Zc.cs) Qj0 rfl rfl fB (Qe.rd dR) fC (by decide)) ?_
       rintro fD hK ⟨fE,fF,fG,bL,iU,dS⟩
       have iV:=bL.size
       refine qm rfl<|Qi<|Zo<|Zg<|qg 2 rfl<|qv rfl (Zy (k:=.i64) (a:=bz) (b:=1) rfl rfl)<|qm rfl ?_
       refine Qi ?_
       have K_162:Kz [(1,b2)] bp hK:=(((Q.kz ec).gr cA).ka bL (Qc (Qk (A:=(fun x=>bp.heap.size≤x)) s)))
       have fH:=((aZ.gr cA).ka bL (Qc (Qv (A:=(fun x=>zy32=0∨x≠gy32)) ai (Qc aw.o) (fun x hx=>(Qc L.o)))))
       have fI:=((da.gr cA).ka bL (Qc (Qt (b:=b2) s)))
       subst ea
       exact⟨rfl,⟨n3,hJ,Qp (bz+1),eb.2,fD,fE,fF,bY,aX,aY,bZ⟩,Qh,⟨hm,fG,⟨(Yp (A:=(fun x=>bp.heap.size≤x)) dS (Qk (A:=(fun x=>bp.heap.size≤x)) s))⟩,fH,⟨(Qv (A:=(fun x=>(x=S∧R≠0)∨bp.heap.size≤x)) ai (Qv (A:=(fun x=>(x=S∧R≠0)∨bp.heap.size≤x)) n Qb))⟩,⟨(Kh (Yp (A:=(fun x=>aX=0∨x≠aY)) dS (Kh (Qv (A:=(fun x=>zy32=0∨x≠gy32)) ai (Qc aw.o) (fun x hx=>(Qc L.o)))) (fun x hx=>(Qc ed.o))))⟩,fI,K_162⟩,Nat.lt_succ_self _⟩
     refine qs 1 rfl<|qm rfl<|qb<|Je ?_
     refine Zb<|Zb<|Je<|Zb<|⟨_,_,rfl,Xj rfl (Qn rfl),?_⟩
     refine qv rfl (Qg Vu rfl)<|qv rfl (Qg Wq rfl) ?_
     have hL:=((dQ.kz aD).kz Q)
     refine qe rfl (Js (cs':=Qo.cs (Qo.mk (Kl x1.1) (Qp (un G.1)) (Qq.mk [] 0#64 [] k0 k0) 0#8 0#64 [] k0) (.slice none 0 0) (.slice none 0 0) (.slice none 0 0)) (Wh).siz rfl rfl rfl hL rfl rfl) ?_
     rintro _ kB ⟨fJ,aE⟩
     have kC:=aE.size
     refine qd 5 rfl<|qm rfl ?_
     have hM:=(ac.md aE)
     have fK:=(av.md aE (Qf n (Qf g (Qf f (Qm D)))))
     obtain⟨aF,fL,hm⟩:=Qd hm
     refine qe rfl (eC Sm rfl (Ss fL hM fK ⟨(Qc (Qf (b:=b2) n (Qf g (Qf f (Qf h (Qm u))))))⟩)) ?_
     rintro _ kD ⟨eN,eO,eP,eQ,rfl,a0,y,db,aG⟩
     have kE:=aG.size
     have iW:=a0.lth
     refine qv rfl (Qg Vu rfl)<|qv rfl (Qg Gb rfl) ?_
     have fM:=(fJ.kz aG)
     refine qe rfl (Js (cs':=Qo.cs (Qo.mk (Kl x1.1) (Qp (un G.1)) (Qq.mk [] aF.1 [] k0 k0) 0#8 0#64 [] k0) (.slice none 0 0) (.slice none 0 0) (.slice none 0 0)) (Zh).siz rfl rfl rfl fM rfl rfl) ?_
     rintro _ kF ⟨dT,ar⟩
     have iX:=ar.size
     refine qd 7 rfl<|qn 2 rfl<|qv rfl (Da rfl rfl)<|Lr 21 Tryz.func95 rfl rfl rfl Qkz rfl rfl rfl rfl rfl ?_
     refine qs 1 rfl<|qm rfl<|qd 1 rfl<|qm rfl ?_
     refine Qa<|Qj<|qs 3 rfl<|qm rfl ?_
     have fN:=(db.md ar)
     have dU:=(a0.md ar (Qf y (Qf n (Qf g (Qf f (Qm D))))))
     obtain⟨dc,fO,hm⟩:=Qd hm
     refine qe rfl (eC Ru rfl (Bb fO fN dU ⟨(Qc (Qf (b:=b2) y (Qf n (Qf g (Qf f (Qf h (Qm u)))))))⟩)) ?_
     rintro _ bq ⟨b0,U,V,b3,rfl,a1,B,dd,aj⟩
     have iY:=aj.size
     have hN:=a1.lth
     refine qm rfl<|Qa<|Xz ?_
     have iZ:=(((((fw.kz Q).md aE).kz aG).md ar).kz aj)
     have i0:=(((((fx.kz Q (Qc (Qm (b:=b2) u))).md aE (Qm u)).kz aG (Qc (Qm (b:=b2) u))).md ar (Qm u)).kz aj (Qc (Qm (b:=b2) u)))
     have i1:=(((((fy.kz Q (Qc (Qf (b:=b2) h (Qm u)))).md aE (Qm D)).kz aG (Qc (Qf (b:=b2) h (Qm u)))).md ar (Qm D)).kz aj (Qc (Qf (b:=b2) h (Qm u))))
     have i2:=(((((fz.kz Q (Qc (Qf (b:=b2) f (Qf h (Qm u))))).md aE (Qf f (Qm D))).kz aG (Qc (Qf (b:=b2) f (Qf h (Qm u))))).md ar (Qf f (Qm D))).kz aj (Qc (Qf (b:=b2) f (Qf h (Qm u)))))
     have i3:=(((((T.kz Q (Qc (Qf (b:=b2) g (Qf f (Qf h (Qm u)))))).md aE (Qf g (Qf f (Qm D)))).kz aG (Qc (Qf (b:=b2) g (Qf f (Qf h (Qm u)))))).md ar (Qf g (Qf f (Qm D)))).kz aj (Qc (Qf (b:=b2) g (Qf f (Qf h (Qm u))))))
     have i4:=((((ab.md aE (Qt s)).kz aG (Qc (Qt (b:=b2) s))).md ar (Qt s)).kz aj (Qc (Qt (b:=b2) s)))
     have i5:=(((fK.kz aG (Qc (Qf (b:=b2) n (Qf g (Qf f (Qf h (Qm u))))))).md ar (Qf n (Qf g (Qf f (Qm D))))).kz aj (Qc (Qf (b:=b2) n (Qf g (Qf f (Qf h (Qm u)))))))
     have i6:=(dU.kz aj (Qc (Qf (b:=b2) y (Qf n (Qf g (Qf f (Qf h (Qm u))))))))
     refine Kb (α:=Nat × List Qx × Int × Zq × Value × Nat × Nat × Value × Nat × Nat × Nat) ([4,5]++rg 8 12) (fun⟨n4,aL,bA,bG,vy44,zy44,gy44,vy47,zy47,gy47,oy47⟩=>[(4,.slice none 0 0),(5,vy44),(8,.int .i64 bA)]) (fun⟨n4,aL,bA,bG,vy44,zy44,gy44,vy47,zy47,gy47,oy47⟩ wr=>(Xq (Qbh x1 G aF dc) n4 (aL,bA,bG)=some r)∧Qe wr zy44 gy44 65 2 vy44 (aL.map Qx.cs)∧Xk (zy44=0∨bq.heap.size≤gy44)∧Rd wr zy47 gy47 oy47 1 vy47 (bG.b.map Xx)∧Xk (zy47=0∨(gy47=V∧U≠0)∨bq.heap.size≤gy47)∧Xk (zy47=0∨zy44=0∨gy47≠gy44)∧Bx wr b2 186 (Zq.cs bG vy47)∧Kz [(1,b2)] bq wr) (fun⟨n4,aL,bA,bG,vy44,zy44,gy44,vy47,zy47,gy47,oy47⟩=>n4) ⟨Ze,[],0,dc.2,(.slice none 0 0),0,0,b0,U,V,b3⟩ ?_ ?_ ?_
     · exact Qh
     · exact⟨hm,(Za _ 0 65 2),⟨(.inl rfl)⟩,a1,⟨Qb⟩,⟨(.inr (.inl rfl))⟩,dd,Kz.refl _ _⟩
     clear hm;rintro⟨n4,aL,bA,bG,vy44,zy44,gy44,vy47,zy47,gy47,oy47⟩ kH ⟨hm,ax,I,ay,E,br,ad,b5⟩
     have i7:=b5.size
     have bs:=ax.lth
     have hO:=ay.lth
     have hP:=ad.lt
     have hb:=Kd hm;clear hm;obtain⟨n4,rfl,hm⟩:=hb
     generalize ee:Xq (Qbh x1 G aF dc) n4=i8 at hm
     unfold Qbh at hm
     try dsimp only at hm
     refine qs 1 rfl<|qv rfl (Jb (a:=bA) (b:=dc.1) rfl rfl)<|Qa<|Qj<|Kg hm rfl (fun c8 hm=>?_) (fun c8 hm=>?_)
     · refine Jl<|Zd<|Zd<|Jk<|Zg<|qs 2 rfl ?_
       refine qn 2 rfl<|Qa<|Qs<|⟨_,_,rfl,Xj rfl (Qn rfl),?_⟩
       refine qv rfl (Qg Vu rfl)<|qv rfl (Qg Yk rfl) ?_
       have fP:=((dT.kz aj).kz b5)
       refine qe rfl (Js (cs':=Qo.cs (Qo.mk (Kl x1.1) (Qp (un G.1)) (Qq.mk [] aF.1 aL k0 k0) 0#8 0#64 [] k0) (.slice none 0 0) vy44 (.slice none 0 0)) (Yi).siz rfl rfl (Qe.oneB ax) fP rfl rfl) ?_
       rintro _ kI ⟨fQ,cB⟩
       have i9:=cB.size
       refine Qa<|qg 10 rfl<|qm rfl ?_
       have fR:=(ad.md cB)
       have fS:=(ay.md cB (Qf E (Qf B (Qf y (Qf n (Qf g (Qf f (Qm D))))))))
       obtain⟨de,fT,hm⟩:=Qd hm
       refine qe rfl (eC Gu rfl (Gv fT fR fS ⟨(Qc (Qf (b:=b2) E (Qf B (Qf y (Qf n (Qf g (Qf f (Qf h (Qm u)))))))))⟩)) ?_
       rintro _ kJ ⟨eR,eS,eT,eU,rfl,a3,M,df,dg⟩
       have ja:=dg.size
       have hQ:=a3.lth
       refine qm rfl ?_
       obtain⟨di,fU,hm⟩:=Qd hm
       refine qe rfl (eC Gu rfl (Gv fU df a3 ⟨(Qc (Qf (b:=b2) M (Qf E (Qf B (Qf y (Qf n (Qf g (Qf f (Qf h (Qm u))))))))))⟩)) ?_
       rintro _ kK ⟨b6,b7,b8,b9,rfl,ba,W,dj,dk⟩
       have jb:=dk.size
       have hR:=ba.lth
       refine qv rfl (Qg Vu rfl)<|qv rfl (Qg Gc rfl) ?_
       have fV:=((fQ.kz dg).kz dk)
       refine qe rfl (Hv (cs':=Qo.cs (Qo.mk (Kl x1.1) (Qp (un G.1)) (Qq.mk [] aF.1 aL de.1 k0) 0#8 0#64 [] k0) (.slice none 0 0) vy44 (.slice none 0 0)) (vs:=kb de.1) (Qy).siz rfl rfl rfl rfl rfl fV rfl rfl) ?_
       rintro _ kL ⟨fW,cC⟩
       have jc:=cC.size
       refine qv rfl (Qg Vu rfl)<|qv rfl (Qg Gz rfl)<|qe rfl (Hv (cs':=Qo.cs (Qo.mk (Kl x1.1) (Qp (un G.1)) (Qq.mk [] aF.1 aL de.1 di.1) 0#8 0#64 [] k0) (.slice none 0 0) vy44 (.slice none 0 0)) (vs:=kb di.1) (Qy).siz rfl rfl rfl rfl rfl fW rfl rfl) ?_
       rintro _ hS ⟨fX,cD⟩
       have jd:=cD.size
       refine Qi ?_
       have K_152:Kz [(1,b2),(1,b4)] w5 hS:=((((((((((((((Kz.kz (Kz.refl _ _) aC).md aK).kz aD).kz Q).md aE).kz aG).md ar).kz aj).kz b5).md cB).kz dg).kz dk).md cC).md cD)
       have fY:=((ba.md cC (Qf W (Qf M (Qf E (Qf B (Qf y (Qf n (Qf g (Qf f (Qm D)))))))))).md cD (Qf W (Qf M (Qf E (Qf B (Qf y (Qf n (Qf g (Qf f (Qm D))))))))))
       have fZ:=(((((ax.md cB (Qt I)).kz dg (Qc (Qt (b:=b2) I))).kz dk (Qc (Qt (b:=b2) I))).md cC (Qt I)).md cD (Qt I))
       have f0:=((dj.md cC).md cD)
       exact⟨rfl,⟨di.2,Qp (un G.1),[],aF.1,aL,de.1,di.1,0#8,0#64,[],b6,b7,b8,b9,(.slice none 0 0),0,0,vy44,zy44,gy44,(.slice none 0 0),0,0⟩,Qh,hm,fY,⟨(Qv (A:=(fun x=>(x=j∧i≠0)∨w5.heap.size≤x)) W (Qv (A:=(fun x=>(x=j∧i≠0)∨w5.heap.size≤x)) M (Qv (A:=(fun x=>(x=j∧i≠0)∨w5.heap.size≤x)) E (Qv (A:=(fun x=>(x=j∧i≠0)∨w5.heap.size≤x)) B (Qv (A:=(fun x=>(x=j∧i≠0)∨w5.heap.size≤x)) y (Qv (A:=(fun x=>(x=j∧i≠0)∨w5.heap.size≤x)) n (Qv (A:=(fun x=>(x=j∧i≠0)∨w5.heap.size≤x)) g (Qv (A:=(fun x=>(x=j∧i≠0)∨w5.heap.size≤x)) f Qb))))))))⟩,(Za _ 0 195 18),⟨(.inl rfl)⟩,fZ,⟨(Qk (A:=(fun x=>w5.heap.size≤x)) I)⟩,(Za _ 0 5 1),⟨(.inl rfl)⟩,⟨(.inl rfl)⟩,⟨(Kh (Qv (A:=(fun x=>zy44=0∨x≠gy44)) W (Qv (A:=(fun x=>zy44=0∨x≠gy44)) M (Qc br.o) (fun x hx=>(Qc bs.o))) (fun x hx=>(Qc bs.o))))⟩,⟨(.inr (.inl rfl))⟩,⟨(.inl rfl)⟩,⟨(.inl rfl)⟩,⟨(.inl rfl)⟩,f0,fX,K_152⟩
     refine qu<|Qj<|Xz<|Qj<|qs 4 rfl ?_
     refine qm rfl<|qv rfl (Yy rfl rfl)<|qv rfl (Qg Ie rfl)<|qv rfl (Ql (v:=.bool bG.short) Dm rfl ad rfl)<|Qa<|Nt hm rfl (fun c9 hm=>?_) (fun c9 hm=>?_)
     · refine qu<|qg 6 rfl<|qn 2 rfl ?_
       obtain⟨ef,f1,hm⟩:=Qd hm
       refine qe rfl (Vk Ql0 rfl rfl (Ql9 f1 ad ay ⟨(Qc (Qf (b:=b2) E (Qf B (Qf y (Qf n (Qf g (Qf f (Qf h (Qm u)))))))))⟩)) ?_
       rintro _ kN ⟨ca,bb,bc,cb,rfl,bd,ak,dl,eg⟩
       have je:=eg.size
       have eh:=bd.lth
       refine qe rfl (Ko [ef.1] Qx.cs Rc rfl rfl (Ks rfl) rfl rfl rfl) ?_
       rintro jf kO ⟨jg,hT,dV,cE⟩
       have jh:=cE.size
       have hU:=dV.lth
       have f2:=((ax.kz eg (Qc (Qt (b:=b2) I))).gr cE)
       obtain⟨hV,f3,hm⟩:=Qd hm
       refine qe rfl (Wo (l:=aL) (m:=[ef.1]) (c:=Qx.cs) Lz rfl rfl f2 (Qe.rd dV) f3 (by decide)) ?_
       rintro f4 hW ⟨f5,f6,f7,bM,ji,dW⟩
       have jj:=bM.size
       refine qm rfl<|Qi<|Zo<|Zg<|qg 2 rfl<|qv rfl (Zy (k:=.i64) (a:=bA) (b:=1) rfl rfl)<|qm rfl ?_
       refine Qi ?_
       have K_138:Kz [(1,b2)] bq hW:=(((b5.kz eg).gr cE).ka bM (Qc (Qk (A:=(fun x=>bq.heap.size≤x)) I)))
       have f8:=((bd.gr cE).ka bM (Qc (Qv (A:=(fun x=>zy44=0∨x≠gy44)) ak (Qc br.o) (fun x hx=>(Qc bs.o)))))
       have f9:=((dl.gr cE).ka bM (Qc (Qt (b:=b2) I)))
       subst ee
       exact⟨rfl,⟨n4,hV,Qp (bA+1),ef.2,f4,f5,f6,ca,bb,bc,cb⟩,Qh,⟨hm,f7,⟨(Yp (A:=(fun x=>bq.heap.size≤x)) dW (Qk (A:=(fun x=>bq.heap.size≤x)) I))⟩,f8,⟨(Qv (A:=(fun x=>(x=V∧U≠0)∨bq.heap.size≤x)) ak (Qv (A:=(fun x=>(x=V∧U≠0)∨bq.heap.size≤x)) E Qb))⟩,⟨(Kh (Yp (A:=(fun x=>bb=0∨x≠bc)) dW (Kh (Qv (A:=(fun x=>zy44=0∨x≠gy44)) ak (Qc br.o) (fun x hx=>(Qc bs.o)))) (fun x hx=>(Qc eh.o))))⟩,f9,K_138⟩,Nat.lt_succ_self _⟩
     refine qs 1 rfl<|qm rfl<|qb<|Je ?_
     refine Zb<|Zb<|Je<|Zb<|⟨_,_,rfl,Xj rfl (Qn rfl),?_⟩
     refine qv rfl (Qg Vu rfl)<|qv rfl (Qg Yk rfl) ?_
     have ga:=((dT.kz aj).kz b5)
     refine qe rfl (Js (cs':=Qo.cs (Qo.mk (Kl x1.1) (Qp (un G.1)) (Qq.mk [] aF.1 [] k0 k0) 0#8 0#64 [] k0) (.slice none 0 0) (.slice none 0 0) (.slice none 0 0)) (Yi).siz rfl rfl rfl ga rfl rfl) ?_
     rintro _ kP ⟨gb,dp⟩
     have jk:=dp.size
     refine Qa<|qg 10 rfl<|qm rfl ?_
     have gc:=(ad.md dp)
     have gf:=(ay.md dp (Qf E (Qf B (Qf y (Qf n (Qf g (Qf f (Qm D))))))))
     obtain⟨dq,gg,hm⟩:=Qd hm
     refine qe rfl (eC Gu rfl (Gv gg gc gf ⟨(Qc (Qf (b:=b2) E (Qf B (Qf y (Qf n (Qf g (Qf f (Qf h (Qm u)))))))))⟩)) ?_
     rintro _ kQ ⟨eV,eW,eX,eY,rfl,be,X,dr,ei⟩
     have jl:=ei.size
     have hX:=be.lth
     refine qm rfl ?_
     obtain⟨ds,gh,hm⟩:=Qd hm
     refine qe rfl (eC Gu rfl (Gv gh dr be ⟨(Qc (Qf (b:=b2) X (Qf E (Qf B (Qf y (Qf n (Qf g (Qf f (Qf h (Qm u))))))))))⟩)) ?_
     rintro _ kR ⟨cc,cd,ce,cf,rfl,bf,al,dt,ej⟩
     have jm:=ej.size
     have hY:=bf.lth
     refine qv rfl (Qg Vu rfl)<|qv rfl (Qg Gc rfl) ?_
     have gi:=((gb.kz ei).kz ej)
     refine qe rfl (Hv (cs':=Qo.cs (Qo.mk (Kl x1.1) (Qp (un G.1)) (Qq.mk [] aF.1 [] dq.1 k0) 0#8 0#64 [] k0) (.slice none 0 0) (.slice none 0 0) (.slice none 0 0)) (vs:=kb dq.1) (Qy).siz rfl rfl rfl rfl rfl gi rfl rfl) ?_
     rintro _ kS ⟨gj,du⟩
     have jn:=du.size
     refine qv rfl (Qg Vu rfl)<|qv rfl (Qg Gz rfl)<|qe rfl (Hv (cs':=Qo.cs (Qo.mk (Kl x1.1) (Qp (un G.1)) (Qq.mk [] aF.1 [] dq.1 ds.1) 0#8 0#64 [] k0) (.slice none 0 0) (.slice none 0 0) (.slice none 0 0)) (vs:=kb ds.1) (Qy).siz rfl rfl rfl rfl rfl gj rfl rfl) ?_
     rintro _ hZ ⟨gk,dv⟩
     have jo:=dv.size
     refine Qi ?_
     have K_129:Kz [(1,b2),(1,b4)] w5 hZ:=((((((((((((((Kz.kz (Kz.refl _ _) aC).md aK).kz aD).kz Q).md aE).kz aG).md ar).kz aj).kz b5).md dp).kz ei).kz ej).md du).md dv)
     have gl:=((bf.md du (Qf al (Qf X (Qf E (Qf B (Qf y (Qf n (Qf g (Qf f (Qm D)))))))))).md dv (Qf al (Qf X (Qf E (Qf B (Qf y (Qf n (Qf g (Qf f (Qm D))))))))))
     have gm:=((dt.md du).md dv)
     exact⟨rfl,⟨ds.2,Qp (un G.1),[],aF.1,[],dq.1,ds.1,0#8,0#64,[],cc,cd,ce,cf,(.slice none 0 0),0,0,(.slice none 0 0),0,0,(.slice none 0 0),0,0⟩,Qh,hm,gl,⟨(Qv (A:=(fun x=>(x=j∧i≠0)∨w5.heap.size≤x)) al (Qv (A:=(fun x=>(x=j∧i≠0)∨w5.heap.size≤x)) X (Qv (A:=(fun x=>(x=j∧i≠0)∨w5.heap.size≤x)) E (Qv (A:=(fun x=>(x=j∧i≠0)∨w5.heap.size≤x)) B (Qv (A:=(fun x=>(x=j∧i≠0)∨w5.heap.size≤x)) y (Qv (A:=(fun x=>(x=j∧i≠0)∨w5.heap.size≤x)) n (Qv (A:=(fun x=>(x=j∧i≠0)∨w5.heap.size≤x)) g (Qv (A:=(fun x=>(x=j∧i≠0)∨w5.heap.size≤x)) f Qb))))))))⟩,(Za _ 0 195 18),⟨(.inl rfl)⟩,(Za _ 0 65 2),⟨(.inl rfl)⟩,(Za _ 0 5 1),⟨(.inl rfl)⟩,⟨(.inl rfl)⟩,⟨(.inl rfl)⟩,⟨(.inl rfl)⟩,⟨(.inl rfl)⟩,⟨(.inl rfl)⟩,⟨(.inl rfl)⟩,gm,gk,K_129⟩
   refine Jl<|Zd<|Zd<|Jk<|Zg<|qs 2 rfl ?_
   refine qn 2 rfl<|Qa<|Qs<|⟨_,_,rfl,Xj rfl (Qn rfl),?_⟩
   refine qv rfl (Qg Vu rfl)<|qv rfl (Qg Wq rfl) ?_
   have gn:=((dQ.kz aD).kz Q)
   refine qe rfl (Js (cs':=Qo.cs (Qo.mk (Kl x1.1) (Qp (un G.1)) (Qq.mk P 0#64 [] k0 k0) 0#8 0#64 [] k0) vy32 (.slice none 0 0) (.slice none 0 0)) (Wh).siz rfl rfl (Qe.oneB ab) gn rfl rfl) ?_
   rintro _ kT ⟨go,aH⟩
   have jp:=aH.size
   refine qd 5 rfl<|qm rfl ?_
   have gp:=(ac.md aH)
   have dX:=(av.md aH (Qf n (Qf g (Qf f (Qm D)))))
   obtain⟨aI,gq,hm⟩:=Qd hm
   refine qe rfl (eC Sm rfl (Ss gq gp dX ⟨(Qc (Qf (b:=b2) n (Qf g (Qf f (Qf h (Qm u))))))⟩)) ?_
   rintro _ kU ⟨eZ,e0,e1,e2,rfl,bg,t,dy,aJ⟩
   have jq:=aJ.size
   have h0:=bg.lth
   refine qv rfl (Qg Vu rfl)<|qv rfl (Qg Gb rfl) ?_
   have gs:=(go.kz aJ)
   refine qe rfl (Js (cs':=Qo.cs (Qo.mk (Kl x1.1) (Qp (un G.1)) (Qq.mk P aI.1 [] k0 k0) 0#8 0#64 [] k0) vy32 (.slice none 0 0) (.slice none 0 0)) (Zh).siz rfl rfl rfl gs rfl rfl) ?_
   rintro _ kV ⟨dY,au⟩
   have jr:=au.size
   refine qd 7 rfl<|qn 2 rfl<|qv rfl (Da rfl rfl)<|Lr 21 Tryz.func95 rfl rfl rfl Qkz rfl rfl rfl rfl rfl ?_
   refine qs 1 rfl<|qm rfl<|qd 1 rfl<|qm rfl ?_
   refine Qa<|Qj<|qs 3 rfl<|qm rfl ?_
   have gu:=(dy.md au)
   have dZ:=(bg.md au (Qf t (Qf n (Qf g (Qf f (Qm D))))))
   obtain⟨dz,gv,hm⟩:=Qd hm
   refine qe rfl (eC Ru rfl (Bb gv gu dZ ⟨(Qc (Qf (b:=b2) t (Qf n (Qf g (Qf f (Qf h (Qm u)))))))⟩)) ?_
   rintro _ bu ⟨cg,Y,Z,ch,rfl,bh,z,dA,am⟩
   have js:=am.size
   have h1:=bh.lth
   refine qm rfl<|Qa<|Xz ?_
   have jt:=(((((fw.kz Q).md aH).kz aJ).md au).kz am)
   have ju:=(((((fx.kz Q (Qc (Qm (b:=b2) u))).md aH (Qm u)).kz aJ (Qc (Qm (b:=b2) u))).md au (Qm u)).kz am (Qc (Qm (b:=b2) u)))
   have jv:=(((((fy.kz Q (Qc (Qf (b:=b2) h (Qm u)))).md aH (Qm D)).kz aJ (Qc (Qf (b:=b2) h (Qm u)))).md au (Qm D)).kz am (Qc (Qf (b:=b2) h (Qm u))))
   have jw:=(((((fz.kz Q (Qc (Qf (b:=b2) f (Qf h (Qm u))))).md aH (Qf f (Qm D))).kz aJ (Qc (Qf (b:=b2) f (Qf h (Qm u))))).md au (Qf f (Qm D))).kz am (Qc (Qf (b:=b2) f (Qf h (Qm u)))))
   have jx:=(((((T.kz Q (Qc (Qf (b:=b2) g (Qf f (Qf h (Qm u)))))).md aH (Qf g (Qf f (Qm D)))).kz aJ (Qc (Qf (b:=b2) g (Qf f (Qf h (Qm u)))))).md au (Qf g (Qf f (Qm D)))).kz am (Qc (Qf (b:=b2) g (Qf f (Qf h (Qm u))))))
   have d0:=((((ab.md aH (Qt s)).kz aJ (Qc (Qt (b:=b2) s))).md au (Qt s)).kz am (Qc (Qt (b:=b2) s)))
   have jy:=(((dX.kz aJ (Qc (Qf (b:=b2) n (Qf g (Qf f (Qf h (Qm u))))))).md au (Qf n (Qf g (Qf f (Qm D))))).kz am (Qc (Qf (b:=b2) n (Qf g (Qf f (Qf h (Qm u)))))))
   have jz:=(dZ.kz am (Qc (Qf (b:=b2) t (Qf n (Qf g (Qf f (Qf h (Qm u))))))))
   refine Kb (α:=Nat × List Qx × Int × Zq × Value × Nat × Nat × Value × Nat × Nat × Nat) ([4,5]++rg 8 12) (fun⟨n5,aM,bB,bH,vy64,zy64,gy64,vy67,zy67,gy67,oy67⟩=>[(4,.slice none 0 0),(5,vy64),(8,.int .i64 bB)]) (fun⟨n5,aM,bB,bH,vy64,zy64,gy64,vy67,zy67,gy67,oy67⟩ wr=>(Xq (Qbi x1 G P aI dz) n5 (aM,bB,bH)=some r)∧Qe wr zy64 gy64 65 2 vy64 (aM.map Qx.cs)∧Xk (zy64=0∨bu.heap.size≤gy64)∧Rd wr zy67 gy67 oy67 1 vy67 (bH.b.map Xx)∧Xk (zy67=0∨(gy67=Z∧Y≠0)∨bu.heap.size≤gy67)∧Xk (zy67=0∨zy64=0∨gy67≠gy64)∧Bx wr b2 186 (Zq.cs bH vy67)∧Kz [(1,b2)] bu wr) (fun⟨n5,aM,bB,bH,vy64,zy64,gy64,vy67,zy67,gy67,oy67⟩=>n5) ⟨Ze,[],0,dz.2,(.slice none 0 0),0,0,cg,Y,Z,ch⟩ ?_ ?_ ?_
   · exact Qh
   · exact⟨hm,(Za _ 0 65 2),⟨(.inl rfl)⟩,bh,⟨Qb⟩,⟨(.inr (.inl rfl))⟩,dA,Kz.refl _ _⟩
   clear hm;rintro⟨n5,aM,bB,bH,vy64,zy64,gy64,vy67,zy67,gy67,oy67⟩ kW ⟨hm,az,F,aA,C,bw,ae,bC⟩
   have jA:=bC.size
   have bx:=az.lth
   have h2:=aA.lth
   have h3:=ae.lt
   have hb:=Kd hm;clear hm;obtain⟨n5,rfl,hm⟩:=hb
   generalize ek:Xq (Qbi x1 G P aI dz) n5=jB at hm
   unfold Qbi at hm
   try dsimp only at hm
   refine qs 1 rfl<|qv rfl (Jb (a:=bB) (b:=dz.1) rfl rfl)<|Qa<|Qj<|Kg hm rfl (fun h4 hm=>?_) (fun h4 hm=>?_)
   · refine Jl<|Zd<|Zd<|Jk<|Zg<|qs 2 rfl ?_
     refine qn 2 rfl<|Qa<|Qs<|⟨_,_,rfl,Xj rfl (Qn rfl),?_⟩
     refine qv rfl (Qg Vu rfl)<|qv rfl (Qg Yk rfl) ?_
     have gw:=((dY.kz am).kz bC)
     refine qe rfl (Js (cs':=Qo.cs (Qo.mk (Kl x1.1) (Qp (un G.1)) (Qq.mk P aI.1 aM k0 k0) 0#8 0#64 [] k0) vy32 vy64 (.slice none 0 0)) (Yi).siz rfl rfl (Qe.oneB az) gw rfl rfl) ?_
     rintro _ kX ⟨gx,ci⟩
     have jC:=ci.size
     refine Qa<|qg 10 rfl<|qm rfl ?_
     have gy:=(ae.md ci)
     have gz:=(aA.md ci (Qf C (Qf z (Qf t (Qf n (Qf g (Qf f (Qm D))))))))
     obtain⟨dB,gA,hm⟩:=Qd hm
     refine qe rfl (eC Gu rfl (Gv gA gy gz ⟨(Qc (Qf (b:=b2) C (Qf z (Qf t (Qf n (Qf g (Qf f (Qf h (Qm u)))))))))⟩)) ?_
     rintro _ kY ⟨e3,e4,e5,e6,rfl,bi,K,dC,cF⟩
     have jD:=cF.size
     have h5:=bi.lth
     refine qm rfl ?_
     obtain⟨dD,gB,hm⟩:=Qd hm
     refine qe rfl (eC Gu rfl (Gv gB dC bi ⟨(Qc (Qf (b:=b2) K (Qf C (Qf z (Qf t (Qf n (Qf g (Qf f (Qf h (Qm u))))))))))⟩)) ?_
     rintro _ kZ ⟨cj,ck,cl,cm,rfl,bj,N,dE,cG⟩
     have jE:=cG.size
     have h6:=bj.lth
     refine qv rfl (Qg Vu rfl)<|qv rfl (Qg Gc rfl) ?_
     have gC:=((gx.kz cF).kz cG)
     refine qe rfl (Hv (cs':=Qo.cs (Qo.mk (Kl x1.1) (Qp (un G.1)) (Qq.mk P aI.1 aM dB.1 k0) 0#8 0#64 [] k0) vy32 vy64 (.slice none 0 0)) (vs:=kb dB.1) (Qy).siz rfl rfl rfl rfl rfl gC rfl rfl) ?_
     rintro _ la ⟨gD,cn⟩
     have jF:=cn.size
     refine qv rfl (Qg Vu rfl)<|qv rfl (Qg Gz rfl)<|qe rfl (Hv (cs':=Qo.cs (Qo.mk (Kl x1.1) (Qp (un G.1)) (Qq.mk P aI.1 aM dB.1 dD.1) 0#8 0#64 [] k0) vy32 vy64 (.slice none 0 0)) (vs:=kb dD.1) (Qy).siz rfl rfl rfl rfl rfl gD rfl rfl) ?_
     rintro _ h7 ⟨gE,co⟩
     have jG:=co.size
     refine Qi ?_
     have K_224:Kz [(1,b2),(1,b4)] w5 h7:=((((((((((((((Kz.kz (Kz.refl _ _) aC).md aK).kz aD).kz Q).md aH).kz aJ).md au).kz am).kz bC).md ci).kz cF).kz cG).md cn).md co)
     have gF:=((bj.md cn (Qf N (Qf K (Qf C (Qf z (Qf t (Qf n (Qf g (Qf f (Qm D)))))))))).md co (Qf N (Qf K (Qf C (Qf z (Qf t (Qf n (Qf g (Qf f (Qm D))))))))))
     have gG:=((((((d0.kz bC (Qc (Qt (b:=b2) s))).md ci (Qt s)).kz cF (Qc (Qt (b:=b2) s))).kz cG (Qc (Qt (b:=b2) s))).md cn (Qt s)).md co (Qt s))
     have gH:=(((((az.md ci (Qt F)).kz cF (Qc (Qt (b:=b2) F))).kz cG (Qc (Qt (b:=b2) F))).md cn (Qt F)).md co (Qt F))
     have gI:=((dE.md cn).md co)
     exact⟨rfl,⟨dD.2,Qp (un G.1),P,aI.1,aM,dB.1,dD.1,0#8,0#64,[],cj,ck,cl,cm,vy32,zy32,gy32,vy64,zy64,gy64,(.slice none 0 0),0,0⟩,Qh,hm,gF,⟨(Qv (A:=(fun x=>(x=j∧i≠0)∨w5.heap.size≤x)) N (Qv (A:=(fun x=>(x=j∧i≠0)∨w5.heap.size≤x)) K (Qv (A:=(fun x=>(x=j∧i≠0)∨w5.heap.size≤x)) C (Qv (A:=(fun x=>(x=j∧i≠0)∨w5.heap.size≤x)) z (Qv (A:=(fun x=>(x=j∧i≠0)∨w5.heap.size≤x)) t (Qv (A:=(fun x=>(x=j∧i≠0)∨w5.heap.size≤x)) n (Qv (A:=(fun x=>(x=j∧i≠0)∨w5.heap.size≤x)) g (Qv (A:=(fun x=>(x=j∧i≠0)∨w5.heap.size≤x)) f Qb))))))))⟩,gG,⟨(Qk (A:=(fun x=>w5.heap.size≤x)) s)⟩,gH,⟨(Qk (A:=(fun x=>w5.heap.size≤x)) F)⟩,(Za _ 0 5 1),⟨(.inl rfl)⟩,⟨(Kh (Qv (A:=(fun x=>zy32=0∨x≠gy32)) N (Qv (A:=(fun x=>zy32=0∨x≠gy32)) K (Qv (A:=(fun x=>zy32=0∨x≠gy32)) C (Qv (A:=(fun x=>zy32=0∨x≠gy32)) z (Qv (A:=(fun x=>zy32=0∨x≠gy32)) t (Qc aw.o) (fun x hx=>(Qc L.o))) (fun x hx=>(Qc L.o))) (fun x hx=>(Qc L.o))) (fun x hx=>(Qc L.o))) (fun x hx=>(Qc L.o))))⟩,⟨(Kh (Qv (A:=(fun x=>zy64=0∨x≠gy64)) N (Qv (A:=(fun x=>zy64=0∨x≠gy64)) K (Qc bw.o) (fun x hx=>(Qc bx.o))) (fun x hx=>(Qc bx.o))))⟩,⟨(Qk (A:=(fun x=>zy32=0∨x≠gy32)) F (fun x hx=>(Qc L.o)))⟩,⟨(.inl rfl)⟩,⟨(.inl rfl)⟩,⟨(.inl rfl)⟩,gI,gE,K_224⟩
   refine qu<|Qj<|Xz<|Qj<|qs 4 rfl ?_
   refine qm rfl<|qv rfl (Yy rfl rfl)<|qv rfl (Qg Ie rfl)<|qv rfl (Ql (v:=.bool bH.short) Dm rfl ae rfl)<|Qa<|Nt hm rfl (fun h8 hm=>?_) (fun h8 hm=>?_)
   · refine qu<|qg 6 rfl<|qn 2 rfl ?_
     obtain⟨el,gJ,hm⟩:=Qd hm
     refine qe rfl (Vk Ql0 rfl rfl (Ql9 gJ ae aA ⟨(Qc (Qf (b:=b2) C (Qf z (Qf t (Qf n (Qf g (Qf f (Qf h (Qm u)))))))))⟩)) ?_
     rintro _ lb ⟨cp,bk,bl,cq,rfl,bm,an,dF,em⟩
     have jH:=em.size
     have en:=bm.lth
     refine qe rfl (Ko [el.1] Qx.cs Rc rfl rfl (Ks rfl) rfl rfl rfl) ?_
     rintro jI lc ⟨jJ,h9,d1,cH⟩
     have jK:=cH.size
     have ia:=d1.lth
     have gK:=((az.kz em (Qc (Qt (b:=b2) F))).gr cH)
     obtain⟨ib,gL,hm⟩:=Qd hm
     refine qe rfl (Wo (l:=aM) (m:=[el.1]) (c:=Qx.cs) Lz rfl rfl gK (Qe.rd d1) gL (by decide)) ?_
     rintro gM ie ⟨gN,gO,gP,bN,jL,d2⟩
     have jM:=bN.size
     refine qm rfl<|Qi<|Zo<|Zg<|qg 2 rfl<|qv rfl (Zy (k:=.i64) (a:=bB) (b:=1) rfl rfl)<|qm rfl ?_
     refine Qi ?_
     have K_210:Kz [(1,b2)] bu ie:=(((bC.kz em).gr cH).ka bN (Qc (Qk (A:=(fun x=>bu.heap.size≤x)) F)))
     have gQ:=((bm.gr cH).ka bN (Qc (Qv (A:=(fun x=>zy64=0∨x≠gy64)) an (Qc bw.o) (fun x hx=>(Qc bx.o)))))
     have gR:=((dF.gr cH).ka bN (Qc (Qt (b:=b2) F)))
     subst ek
     exact⟨rfl,⟨n5,ib,Qp (bB+1),el.2,gM,gN,gO,cp,bk,bl,cq⟩,Qh,⟨hm,gP,⟨(Yp (A:=(fun x=>bu.heap.size≤x)) d2 (Qk (A:=(fun x=>bu.heap.size≤x)) F))⟩,gQ,⟨(Qv (A:=(fun x=>(x=Z∧Y≠0)∨bu.heap.size≤x)) an (Qv (A:=(fun x=>(x=Z∧Y≠0)∨bu.heap.size≤x)) C Qb))⟩,⟨(Kh (Yp (A:=(fun x=>bk=0∨x≠bl)) d2 (Kh (Qv (A:=(fun x=>zy64=0∨x≠gy64)) an (Qc bw.o) (fun x hx=>(Qc bx.o)))) (fun x hx=>(Qc en.o))))⟩,gR,K_210⟩,Nat.lt_succ_self _⟩
   refine qs 1 rfl<|qm rfl<|qb<|Je ?_
   refine Zb<|Zb<|Je<|Zb<|⟨_,_,rfl,Xj rfl (Qn rfl),?_⟩
   refine qv rfl (Qg Vu rfl)<|qv rfl (Qg Yk rfl) ?_
   have gS:=((dY.kz am).kz bC)
   refine qe rfl (Js (cs':=Qo.cs (Qo.mk (Kl x1.1) (Qp (un G.1)) (Qq.mk P aI.1 [] k0 k0) 0#8 0#64 [] k0) vy32 (.slice none 0 0) (.slice none 0 0)) (Yi).siz rfl rfl rfl gS rfl rfl) ?_
   rintro _ ld ⟨gT,cI⟩
   have jN:=cI.size
   refine Qa<|qg 10 rfl<|qm rfl ?_
   have gU:=(ae.md cI)
   have gV:=(aA.md cI (Qf C (Qf z (Qf t (Qf n (Qf g (Qf f (Qm D))))))))
   obtain⟨dG,gW,hm⟩:=Qd hm
   refine qe rfl (eC Gu rfl (Gv gW gU gV ⟨(Qc (Qf (b:=b2) C (Qf z (Qf t (Qf n (Qf g (Qf f (Qf h (Qm u)))))))))⟩)) ?_
   rintro _ lf ⟨e7,e8,e9,fa,rfl,bn,O,dH,dI⟩
   have jO:=dI.size
   have ig:=bn.lth
   refine qm rfl ?_
   obtain⟨dJ,gX,hm⟩:=Qd hm
   refine qe rfl (eC Gu rfl (Gv gX dH bn ⟨(Qc (Qf (b:=b2) O (Qf C (Qf z (Qf t (Qf n (Qf g (Qf f (Qf h (Qm u))))))))))⟩)) ?_
   rintro _ lh ⟨cr,ct,cu,cv,rfl,bo,aa,dK,dL⟩
   have jP:=dL.size
   have ih:=bo.lth
   refine qv rfl (Qg Vu rfl)<|qv rfl (Qg Gc rfl) ?_
   have gY:=((gT.kz dI).kz dL)
   refine qe rfl (Hv (cs':=Qo.cs (Qo.mk (Kl x1.1) (Qp (un G.1)) (Qq.mk P aI.1 [] dG.1 k0) 0#8 0#64 [] k0) vy32 (.slice none 0 0) (.slice none 0 0)) (vs:=kb dG.1) (Qy).siz rfl rfl rfl rfl rfl gY rfl rfl) ?_
   rintro _ li ⟨gZ,cJ⟩
   have jQ:=cJ.size
   refine qv rfl (Qg Vu rfl)<|qv rfl (Qg Gz rfl)<|qe rfl (Hv (cs':=Qo.cs (Qo.mk (Kl x1.1) (Qp (un G.1)) (Qq.mk P aI.1 [] dG.1 dJ.1) 0#8 0#64 [] k0) vy32 (.slice none 0 0) (.slice none 0 0)) (vs:=kb dJ.1) (Qy).siz rfl rfl rfl rfl rfl gZ rfl rfl) ?_
   rintro _ ii ⟨g0,cK⟩
   have jR:=cK.size
   refine Qi ?_
   have K_200:Kz [(1,b2),(1,b4)] w5 ii:=((((((((((((((Kz.kz (Kz.refl _ _) aC).md aK).kz aD).kz Q).md aH).kz aJ).md au).kz am).kz bC).md cI).kz dI).kz dL).md cJ).md cK)
   have g1:=((bo.md cJ (Qf aa (Qf O (Qf C (Qf z (Qf t (Qf n (Qf g (Qf f (Qm D)))))))))).md cK (Qf aa (Qf O (Qf C (Qf z (Qf t (Qf n (Qf g (Qf f (Qm D))))))))))
   have g2:=((((((d0.kz bC (Qc (Qt (b:=b2) s))).md cI (Qt s)).kz dI (Qc (Qt (b:=b2) s))).kz dL (Qc (Qt (b:=b2) s))).md cJ (Qt s)).md cK (Qt s))
   have g3:=((dK.md cJ).md cK)
   exact⟨rfl,⟨dJ.2,Qp (un G.1),P,aI.1,[],dG.1,dJ.1,0#8,0#64,[],cr,ct,cu,cv,vy32,zy32,gy32,(.slice none 0 0),0,0,(.slice none 0 0),0,0⟩,Qh,hm,g1,⟨(Qv (A:=(fun x=>(x=j∧i≠0)∨w5.heap.size≤x)) aa (Qv (A:=(fun x=>(x=j∧i≠0)∨w5.heap.size≤x)) O (Qv (A:=(fun x=>(x=j∧i≠0)∨w5.heap.size≤x)) C (Qv (A:=(fun x=>(x=j∧i≠0)∨w5.heap.size≤x)) z (Qv (A:=(fun x=>(x=j∧i≠0)∨w5.heap.size≤x)) t (Qv (A:=(fun x=>(x=j∧i≠0)∨w5.heap.size≤x)) n (Qv (A:=(fun x=>(x=j∧i≠0)∨w5.heap.size≤x)) g (Qv (A:=(fun x=>(x=j∧i≠0)∨w5.heap.size≤x)) f Qb))))))))⟩,g2,⟨(Qk (A:=(fun x=>w5.heap.size≤x)) s)⟩,(Za _ 0 65 2),⟨(.inl rfl)⟩,(Za _ 0 5 1),⟨(.inl rfl)⟩,⟨(Kh (Qv (A:=(fun x=>zy32=0∨x≠gy32)) aa (Qv (A:=(fun x=>zy32=0∨x≠gy32)) O (Qv (A:=(fun x=>zy32=0∨x≠gy32)) C (Qv (A:=(fun x=>zy32=0∨x≠gy32)) z (Qv (A:=(fun x=>zy32=0∨x≠gy32)) t (Qc aw.o) (fun x hx=>(Qc L.o))) (fun x hx=>(Qc L.o))) (fun x hx=>(Qc L.o))) (fun x hx=>(Qc L.o))) (fun x hx=>(Qc L.o))))⟩,⟨(.inl rfl)⟩,⟨(.inl rfl)⟩,⟨(.inl rfl)⟩,⟨(.inl rfl)⟩,⟨(.inl rfl)⟩,g3,g0,K_200⟩
 clear hm;rintro⟨a2,a4,a5,a6,a7,a8,a9,bQ,bR,bE,vy3,zy3,gy3,oy3,vy13,zy13,gy13,vy14,zy14,gy14,vy15,zy15,gy15⟩ w6 ⟨hm,cL,cM,bI,ao,bJ,ap,bK,aq,ij,ik,dM,hl,dN,dO,bO,bP,K6⟩
 have lj:=K6.size
 have jS:=cL.lth
 have jT:=bI.lth
 have jU:=bJ.lth
 have jV:=bK.lth
 have jW:=bO.lt
 have jX:=bP.lt
 unfold Ry at hm
 refine qs 4 rfl<|qm rfl ?_
 obtain⟨cw,g4,hm⟩:=Qd hm
 refine qe rfl (eC Gu rfl (Gv g4 bO cL ⟨(Qc (Qf (b:=b2) cM (Qf h (Qm u))))⟩)) ?_
 rintro _ w7 ⟨cN,g5,g6,g7,rfl,bD,cO,eo,K7⟩
 have ll:=K7.size
 have jY:=bD.lth
 refine qv rfl (Qg Na rfl) ?_
 have il:=(bP.kz K7)
 refine qe rfl (Hv (cs':=Qo.cs (Qo.mk (Kl x1.1) a4 (Qq.mk a5 a6 a7 a8 a9) bQ bR bE cw.1) vy13 vy14 vy15) (vs:=kb cw.1) (Qy).siz rfl rfl rfl rfl rfl il rfl rfl) ?_
 rintro _ w8 ⟨g8,M8⟩
 have lm:=M8.size
 refine Qa<|Qj ?_
 have g9:=(((d4.kz K6).kz K7).md M8)
 refine qj (β:=Bool) (rg 66 17) (fun dP=>[(82,.bool dP)]) (fun dP wr=>(Ao x1 a4 a5 a6 a7 a8 a9 bQ bR bE cw dP=some r)∧Kz [] w8 wr) ?_ ?_
 · refine qg 17 rfl<|qm rfl<|qv rfl (Yy rfl rfl)<|qv rfl (Qg Ie rfl) ?_
   have ha:=(eo.md M8)
   refine qv rfl (Ql (v:=.bool cw.2.short) Dm rfl ha rfl)<|Pw hm rfl (Qw rfl) (fun c2 hm=>?_) (fun c2 hm=>?_)
   · refine qn 7 rfl ?_
     refine qn 5 rfl<|Qi ?_
     exact⟨rfl,true,Qh,hm,Xi⟩
   refine qm rfl<|qv rfl (Yy rfl rfl)<|qv rfl (Qg Ue rfl)<|qv rfl (Ql (v:=cN) Yo rfl ha rfl) ?_
   have im:=(bD.md M8 (Qf cO (Qf cM (Qm D))))
   refine qv rfl (Zx (l:=cw.2.b) (c:=Xx) Tryz.underlying54 rfl im)<|qv rfl (Ve (a:=(cw.2.b.length:Int)) (b:=0) rfl rfl)<|qm rfl<|Zm hm rfl (Qw rfl) (fun c3 hm=>?_) (fun c3 hm=>?_)
   · refine qn 4 rfl<|Qi ?_
     exact⟨rfl,true,Qh,hm,Xi⟩
   refine qv rfl (Qu Zl rfl g8 rfl) ?_
   have io:=((bI.kz K7 (Qc (Qt (b:=b2) ao))).md M8 (Qt ao))
   have ip:=((bJ.kz K7 (Qc (Qt (b:=b2) ap))).md M8 (Qt ap))
   have iq:=((bK.kz K7 (Qc (Qt (b:=b2) aq))).md M8 (Qt aq))
   obtain⟨hc,hd,hm⟩:=Qd hm
   refine qe rfl (eC Qfs rfl (Qfw hd (Qe.rd io) (Qe.rd ip) (Qe.rd iq))) ?_
   rintro _ ln ⟨rfl,he⟩
   have lo:=he.size
   refine qv rfl (Zp (a:=hc) (b:=0) rfl rfl)<|qm rfl<|Qi ?_
   exact⟨rfl,(decide (hc≠0)),Qh,hm,(Xi.gr he)⟩
 clear hm;rintro dP w9 ⟨hm,K9⟩
 have lp:=K9.size
 unfold Ao at hm
 refine Zw hm rfl (fun c1 hm=>?_) (fun c1 hm=>?_)
 · refine qs 3 rfl<|qv rfl (Zk (cs:=Qo.cs (Qo.mk 0#8 0 (Qq.mk [] 0#64 [] k0 k0) 0#8 0#64 [] k0) (.slice none 0 0) (.slice none 0 0) (.slice none 0 0)) Nr rfl (by kernel_rfl)) ?_
   have ir:=((((((((cQ.gr G2).kz K3).gr G4).md M5).kz K6).kz K7).md M8).kz K9)
   refine qe rfl (Qr Zl rfl rfl (Qo.cs_ones _ _ _ _ rfl rfl rfl) ir rfl rfl) ?_
   rintro _ lq ⟨hf,hg⟩
   have lr:=hg.size
   refine qm rfl<|qb ?_
   have it:=((g9.kz K9).md hg)
   cases hm
   exact⟨_,_,rfl,Xy rfl (Zf Zl rfl hf rfl) (Qn rfl),(.slice none 0 0),0,0,(.slice none 0 0),0,0,(.slice none 0 0),0,0,rfl,(Za _ 0 195 18),⟨.inl rfl⟩,(Za _ 0 65 2),⟨.inl rfl⟩,(Za _ 0 5 1),⟨.inl rfl⟩,⟨(.inl rfl)⟩,⟨(.inl rfl)⟩,⟨(.inl rfl)⟩,it⟩
 refine qu<|qs 3 rfl ?_
 have iu:=(g8.kz K9)
 refine qv rfl (Qu Zl rfl iu rfl) ?_
 have iv:=((((((((cQ.gr G2).kz K3).gr G4).md M5).kz K6).kz K7).md M8).kz K9)
 have hh:=(((bI.kz K7 (Qc (Qt (b:=b2) ao))).md M8 (Qt ao)).kz K9)
 have hi:=(((bJ.kz K7 (Qc (Qt (b:=b2) ap))).md M8 (Qt ap)).kz K9)
 have hj:=(((bK.kz K7 (Qc (Qt (b:=b2) aq))).md M8 (Qt aq)).kz K9)
 refine qe rfl (Qr Zl rfl rfl (Qo.cs_ones _ _ _ _ (Qe.oneB hh) (Qe.oneB hi) (Qe.oneB hj)) iv rfl rfl) ?_
 rintro _ ls ⟨hk,cP⟩
 have lu:=cP.size
 refine qm rfl<|Qa<|Qs ?_
 have iw:=(hh.md cP (Qt ao))
 have ix:=(hi.md cP (Qt ap))
 have iy:=(hj.md cP (Qt aq))
 have iz:=((g9.kz K9).md cP)
 cases hm
 exact⟨_,_,rfl,Xy rfl (Zf Zl rfl hk rfl) (Qn rfl),vy13,zy13,gy13,vy14,zy14,gy14,vy15,zy15,gy15,rfl,iw,⟨(Qk (A:=(fun x=>w.heap.size≤x)) ao)⟩,ix,⟨(Qk (A:=(fun x=>w.heap.size≤x)) ap)⟩,iy,⟨(Qk (A:=(fun x=>w.heap.size≤x)) aq)⟩,⟨(Qc dM.o)⟩,⟨(Qc dN.o)⟩,⟨(Qc dO.o)⟩,iz⟩
end Go.Proofs.YtplcaaglieefgaaGreat.Mx
