/- Walks that follow mirrors: Xf. Printed by mx.py. -/
import Derived.Test.YtplcaaglieefgaaGreatXe
import Derived.Test.YtplcaaglieefgaaGreatZd
set_option linter.unusedVariables false
set_option linter.unusedSimpArgs false
set_option maxRecDepth 100000
set_option maxHeartbeats 16000000
namespace Go.Proofs.YtplcaaglieefgaaGreat.Mx
open Go Go.RowKit Go.Sx
theorem Qiw:ZV Tryz.prog 94 (.agg [.int .i64 0,.int .i64 0,.int .i64 0,.int .i64 0,.int .i64 0].toArray):=fun _=>by kernel_rfl
theorem Qos:BS Tryz.prog 94 (fun i=>[(0,1),(1,1),(2,1),(3,1),(4,1)][i]?) [.int .i64 0,.int .i64 0,.int .i64 0,.int .i64 0,.int .i64 0]:=Hg Tryz.underlying94 Qiw ⟨rfl,(Xm).siz,rfl,(Xm).siz,rfl,(Xm).siz,rfl,(Xm).siz,rfl,(Xm).siz,trivial⟩
theorem Jh:En Tryz.prog 36:=fun _ _=>by kernel_rfl
theorem Qr8:En Tryz.prog 87:=fun _ _=>by kernel_rfl
theorem Qb8:En Tryz.prog 37:=fun _ _=>by kernel_rfl
theorem Qb9:En Tryz.prog 38:=fun _ _=>by kernel_rfl
theorem Qot:Hf Tryz.prog 45 2 3 1 [.int .i64 0,.int .i64 0]:=Gp Tryz.underlying45 (Xm).siz Qo7 rfl rfl (by kernel_rfl)
theorem Qr9:En Tryz.prog 88:=fun _ _=>by kernel_rfl
theorem Qj3:BA Tryz.prog 36 1 [.int .u8 0,.int .u8 0,.int .u8 0,.int .u8 0,.int .u8 0,.int .u8 0,.int .u8 0,.int .u8 0,.int .u8 0,.int .u8 0,.int .u8 0,.int .u8 0,.int .u8 0,.int .u8 0,.int .u8 0,.int .u8 0]:=⟨_,_,Tryz.underlying36,(Zj).siz,Jq⟩
theorem Yb:En Tryz.prog 42:=fun _ _=>by kernel_rfl
theorem Tp:En Tryz.prog 12:=fun _ _=>by kernel_rfl
theorem Gn:Hf Tryz.prog 54 3 5 1 [.int .u8 0,.int .u8 0,.int .u8 0]:=Gp Tryz.underlying54 (Zj).siz Ft rfl rfl (by kernel_rfl)
theorem Vg:En Tryz.prog 24:=fun _ _=>by kernel_rfl
theorem Dc:En Tryz.prog 29:=fun _ _=>by kernel_rfl
theorem Wv:En Tryz.prog 31:=fun _ _=>by kernel_rfl
theorem Ji {r}(hm:Vo=some r){w:World}:
 Calls Tryz.prog 36 [].toArray w fun e w'=>∃ v,e=.returned v∧(v=.agg (Zi.cs r).toArray∧Gr w w'):=by
 unfold Vo at hm
 refine Xu 2 Tryz.func36 rfl rfl rfl<|qs 1 rfl<|qe rfl (Qz (cs:=Zi.cs (Zi.mk 0 0 0 0 0)) Qiw rfl) ?_
 rintro _ w1 ⟨b1,rfl,c,a,G1⟩
 have z1:=G1.size
 have d:=a.lt
 refine qd 2 rfl<|qv rfl (Zk (cs:=Zi.cs (Zi.mk 100 10 20 6 2)) Qos rfl rfl)<|qe rfl (Qr Ya rfl rfl rfl a rfl rfl) ?_
 rintro _ w2 ⟨b,M2⟩
 have z3:=M2.size
 refine Qa<|Qs ?_
 have X4:=(((Gr.refl w).trans G1).md M2)
 cases hm
 exact⟨_,_,rfl,Xj rfl (Zf Ya rfl b rfl),rfl,X4⟩
theorem Qta {p0 p1 vp0 zp0 gp0 op0 vp1 zp1 gp1 op1 r}(hm:Qh6 p0 p1=some r){w:World}(d:Rd w zp0 gp0 op0 1 vp0 (p0.map ic))(f:Rd w zp1 gp1 op1 1 vp1 (p1.map ic)):
 Calls Tryz.prog 88 [vp0,vp1].toArray w fun e w'=>∃ v,e=.returned v∧(v=.bool r∧Gr w w'):=by
 have n:=d.lth
 have o:=f.lth
 unfold Qh6 at hm
 refine Xu 26 Tryz.func88 rfl rfl rfl<|qs 1 rfl<|qm rfl<|Qa<|Qj<|Qj ?_
 refine qg 5 rfl<|qm rfl<|qv rfl (Zx (l:=p0) (c:=ic) Tryz.underlying45 rfl d)<|qm rfl<|qv rfl (Zx (l:=p1) (c:=ic) Tryz.underlying45 rfl f)<|qv rfl (Zp (a:=(p0.length:Int)) (b:=(p1.length:Int)) rfl rfl)<|Qa ?_
 refine Zv hm rfl (fun c1 hm=>?_) (fun c1 hm=>?_)
 · refine qs 1 rfl<|qm rfl<|qb ?_
   cases hm
   exact⟨_,_,rfl,Xj rfl (Qn rfl),rfl,(Gr.refl w)⟩
 refine qu<|Qj<|qs 3 rfl<|qm rfl<|qv rfl (Zx (l:=p0) (c:=ic) Tryz.underlying45 rfl d) ?_
 refine qm rfl<|Qa<|Xz<|Kb (α:=Nat × Int) ([4,5]++rg 13 13) (fun⟨n1,a2⟩=>[(4,.bool false),(13,.int .i64 a2)]) (fun⟨n1,a2⟩ wr=>(Xq (Qcn p0 p1) n1 a2=some r)∧Kz [] w wr) (fun⟨n1,a2⟩=>n1) ⟨Ze,0⟩ ?_ ?_ ?_
 · exact Qh
 · exact⟨hm,Kz.refl _ _⟩
 clear hm;rintro⟨n1,a2⟩ w1 ⟨hm,K1⟩
 have z3:=K1.size
 have hb:=Kd hm;clear hm;obtain⟨n1,rfl,hm⟩:=hb
 generalize g:Xq (Qcn p0 p1) n1=m at hm
 unfold Qcn at hm
 try dsimp only at hm
 refine qs 1 rfl<|qv rfl (Jb (a:=a2) (b:=(p0.length:Int)) rfl rfl)<|Qa<|Qj<|Kg hm rfl (fun c2 hm=>?_) (fun c2 hm=>?_)
 · refine Jl<|Zd<|Zd<|Jk<|Zg<|qs 1 rfl ?_
   refine qm rfl<|Qa<|Qs ?_
   have X8:=((Gr.refl w).kz K1)
   cases hm
   exact⟨_,_,rfl,Xj rfl (Qn rfl),rfl,X8⟩
 refine qu<|Qj<|Xz<|qs 2 rfl<|qm rfl ?_
 refine qm rfl<|Qa<|Qj<|dw [([])] [] (.leaf [(0,10),(1,10),(2,10),(3,10),(4,10),(5,10),(6,10),(7,10),(8,10)]) ?_
 intro w2 G2 p
 refine Xo<|dm 0 rfl rfl<|dm 0 rfl rfl ?_
 obtain⟨y3,h,hm⟩:=Qd hm
 have B4:=((d.kz K1).gr G2)
 refine dh 0 rfl rfl (fun w hS=>Vm (i:=a2) Tryz.underlying45 (Xm).siz rfl (Rd.kp B4 hS) rfl h)<|dh 0 rfl rfl (fun w hS=>Pz (q:=0) (u:=.int .i64 y3) Xm rfl (Rd.kp B4 hS) h (by first|rfl|omega) rfl)<|dm 0 rfl rfl<|dm 0 rfl rfl ?_
 obtain⟨y4,j,hm⟩:=Qd hm
 have B5:=((f.kz K1).gr G2)
 refine dh 0 rfl rfl (fun w hS=>Vm (i:=a2) Tryz.underlying45 (Xm).siz rfl (Rd.kp B5 hS) rfl j)<|dh 0 rfl rfl (fun w hS=>Pz (q:=0) (u:=.int .i64 y4) Xm rfl (Rd.kp B5 hS) j (by first|rfl|omega) rfl)<|dh 0 rfl rfl (fun w hS=>Zp (a:=y3) (b:=y4) rfl rfl)<|Qa<|Zv hm rfl (fun c3 hm=>?_) (fun c3 hm=>?_)
 · refine qs 1 rfl<|qm rfl<|Qa<|Qs<|Je<|Zb ?_
   refine Zb<|Je<|Zb ?_
   have X6:=(((Gr.refl w).kz K1).trans G2)
   cases hm
   exact⟨_,_,rfl,Xj rfl (Qn rfl),rfl,X6⟩
 refine Vl<|Zo<|Zg<|qg 2 rfl<|qv rfl (Zy (k:=.i64) (a:=a2) (b:=1) rfl rfl)<|qm rfl<|Qi ?_
 have K_7:Kz [] w w2:=(K1.gr G2)
 subst g
 exact⟨rfl,⟨n1,Qp (a2+1)⟩,Qh,⟨hm,K_7⟩,Nat.lt_succ_self _⟩
theorem Yc {r}(hm:Wx=some r){w:World}:
 Calls Tryz.prog 42 [].toArray w fun e w'=>∃ v,e=.returned v∧(v=.agg (Xn.cs r).toArray∧Gr w w'):=by
 unfold Wx at hm
 refine Xu 2 Tryz.func42 rfl rfl rfl<|qs 1 rfl<|qe rfl (Qz (cs:=Xn.cs (Xn.mk 0#8 0 0 (Vi.mk 0#64 0#64 0#64))) Qo8 rfl) ?_
 rintro _ w1 ⟨b1,rfl,c,a,G1⟩
 have z1:=G1.size
 have d:=a.lt
 refine qd 2 rfl<|qv rfl (Zk (cs:=Xn.cs (Xn.mk 2#8 2 0 (Vi.mk 0#64 0#64 0#64))) Qei rfl rfl)<|qe rfl (Qr Jr rfl rfl rfl a rfl rfl) ?_
 rintro _ w2 ⟨b,M2⟩
 have z3:=M2.size
 refine Qa<|Qs ?_
 have X4:=(((Gr.refl w).trans G1).md M2)
 cases hm
 exact⟨_,_,rfl,Xj rfl (Zf Jr rfl b rfl),rfl,X4⟩
theorem Qt9 {r}(hm:It=some r){w:World}:
 Calls Tryz.prog 39 [].toArray w fun e w'=>∃ v,e=.returned v∧(v=.bool r∧Gr w w'):=by
 unfold It at hm
 refine Xu 184 Tryz.func39 rfl rfl rfl<|qs 1 rfl<|qm rfl<|qd 7 rfl ?_
 obtain⟨x1,yW,hm⟩:=Qd hm
 refine qe rfl (eC Jh rfl (Ji yW)) ?_
 rintro _ w1 ⟨rfl,G1⟩
 have z1:=G1.size
 obtain⟨x2,yX,hm⟩:=Qd hm
 refine qe rfl (eC Qky rfl (Ql2 yX)) ?_
 rintro _ w2 ⟨rfl,G2⟩
 have z2:=G2.size
 refine qn 5 rfl<|Qa<|Qj ?_
 refine qg 7 rfl ?_
 obtain⟨x3,yY,hm⟩:=Qd hm
 refine qe rfl (eC Jh rfl (Ji yY)) ?_
 rintro _ w3 ⟨rfl,G3⟩
 have z3:=G3.size
 obtain⟨x4,yZ,hm⟩:=Qd hm
 refine qe rfl (eC Qks rfl (Ql4 yZ)) ?_
 rintro _ w4 ⟨rfl,G4⟩
 have z4:=G4.size
 refine qn 5 rfl<|Qa<|Qj ?_
 refine qg 7 rfl ?_
 obtain⟨x5,y0,hm⟩:=Qd hm
 refine qe rfl (eC Jh rfl (Ji y0)) ?_
 rintro _ w5 ⟨rfl,G5⟩
 have z5:=G5.size
 obtain⟨x6,y1,hm⟩:=Qd hm
 refine qe rfl (eC Qr8 rfl (Qri y1)) ?_
 rintro _ w6 ⟨rN,rO,rP,rfl,d1,rQ,G6⟩
 have z6:=G6.size
 have NF:=d1.lth
 refine qn 5 rfl<|Qa<|Qj ?_
 refine qg 7 rfl ?_
 obtain⟨x7,y2,hm⟩:=Qd hm
 refine qe rfl (eC Jh rfl (Ji y2)) ?_
 rintro _ w7 ⟨rfl,G7⟩
 have z8:=G7.size
 obtain⟨x8,y3,hm⟩:=Qd hm
 refine qe rfl (eC Qb8 rfl (Qbq y3)) ?_
 rintro _ w8 ⟨rfl,G8⟩
 have z9:=G8.size
 refine qn 5 rfl<|Qa<|Qj ?_
 refine qg 7 rfl ?_
 obtain⟨x9,y4,hm⟩:=Qd hm
 refine qe rfl (eC Jh rfl (Ji y4)) ?_
 rintro _ w9 ⟨rfl,G9⟩
 have NG:=G9.size
 obtain⟨rR,rS,hm⟩:=Qd hm
 refine qe rfl (eC Qb9 rfl (Qbl rS)) ?_
 rintro _ y5 ⟨rfl,pz⟩
 have NH:=pz.size
 refine qn 5 rfl<|Qa<|Qj ?_
 have rT:=(((((((((((Gr.refl w).trans G1).trans G2).trans G3).trans G4).trans G5).trans G6).trans G7).trans G8).trans G9).trans pz)
 refine qj (β:=Bool) (rg 45 40) (fun mK=>[(84,.bool mK)]) (fun mK wr=>(Pf mK=some r)∧Kz [] y5 wr) ?_ ?_
 · refine qg 40 rfl<|qm rfl<|qv rfl (Zp (a:=x2.2) (b:=0) rfl rfl)<|Zm hm rfl (Qw rfl) (fun y6 hm=>?_) (fun y6 hm=>?_)
   · refine qn 7 rfl ?_
     refine qn 7 rfl ?_
     refine qn 7 rfl ?_
     refine qn 7 rfl ?_
     refine qn 7 rfl ?_
     refine qn 2 rfl<|Qi ?_
     exact⟨rfl,true,Qh,hm,Xi⟩
   refine qm rfl<|qv rfl (Zp (a:=x2.1) (b:=0) rfl rfl)<|qm rfl<|Zm hm rfl (Qw rfl) (fun y7 hm=>?_) (fun y7 hm=>?_)
   · refine qn 7 rfl ?_
     refine qn 7 rfl ?_
     refine qn 7 rfl ?_
     refine qn 7 rfl ?_
     refine qn 5 rfl<|Qi ?_
     exact⟨rfl,true,Qh,hm,Xi⟩
   refine qm rfl<|qv rfl (Zp (a:=x4.2) (b:=0) rfl rfl)<|qm rfl<|Zm hm rfl (Qw rfl) (fun y8 hm=>?_) (fun y8 hm=>?_)
   · refine qn 7 rfl ?_
     refine qn 7 rfl ?_
     refine qn 7 rfl ?_
     refine qn 7 rfl ?_
     refine qm rfl<|Qi ?_
     exact⟨rfl,true,Qh,hm,Xi⟩
   refine qm rfl<|qv rfl (Zp (a:=x4.1) (b:=9) rfl rfl)<|qm rfl<|Zm hm rfl (Qw rfl) (fun y9 hm=>?_) (fun y9 hm=>?_)
   · refine qn 7 rfl ?_
     refine qn 7 rfl ?_
     refine qn 7 rfl ?_
     refine qn 4 rfl<|Qi ?_
     exact⟨rfl,true,Qh,hm,Xi⟩
   refine qm rfl<|qv rfl (Zp (a:=x6.2) (b:=0) rfl rfl)<|qm rfl<|Zm hm rfl (Qw rfl) (fun za hm=>?_) (fun za hm=>?_)
   · refine qn 7 rfl ?_
     refine qn 7 rfl ?_
     refine qn 7 rfl ?_
     refine Qi ?_
     exact⟨rfl,true,Qh,hm,Xi⟩
   refine qm rfl<|qe rfl (Ko [0,1] ic Qot rfl rfl (Ks rfl) rfl rfl rfl) ?_
   rintro zb FN ⟨zc,xW,ld,ch⟩
   have FO:=ch.size
   have zd:=ld.lth
   have rU:=(((((d1.gr G7).gr G8).gr G9).gr pz).gr ch)
   obtain⟨FP,pA,hm⟩:=Qd hm
   refine qe rfl (eC Qr9 rfl (Qta pA (Qe.rd rU) (Qe.rd ld))) ?_
   rintro _ FQ ⟨rfl,ds⟩
   have FR:=ds.size
   refine qv rfl (Jj rfl)<|qm rfl<|Pw hm rfl (Qw rfl) (fun ze hm=>?_) (fun ze hm=>?_)
   · refine qn 7 rfl ?_
     refine qn 7 rfl ?_
     refine qm rfl<|Qi ?_
     have Y1:=Gr.trans ch ds
     exact⟨rfl,true,Qh,hm,(Xi.gr Y1)⟩
   refine qm rfl<|qv rfl (Zp (a:=x8.2) (b:=0) rfl rfl)<|qm rfl<|Zm hm rfl (Qw rfl) (fun zg hm=>?_) (fun zg hm=>?_)
   · refine qn 7 rfl ?_
     refine qn 4 rfl<|Qi ?_
     have Y2:=Gr.trans ch ds
     exact⟨rfl,true,Qh,hm,(Xi.gr Y2)⟩
   refine qm rfl<|qv rfl (Zp (a:=x8.1) (b:=9) rfl rfl)<|qm rfl<|Zm hm rfl (Qw rfl) (fun zh hm=>?_) (fun zh hm=>?_)
   · refine qn 7 rfl ?_
     refine Qi ?_
     have Y3:=Gr.trans ch ds
     exact⟨rfl,true,Qh,hm,(Xi.gr Y3)⟩
   refine qm rfl<|qv rfl (Zp (a:=rR.2) (b:=0) rfl rfl)<|qm rfl<|Zm hm rfl (Qw rfl) (fun zi hm=>?_) (fun zi hm=>?_)
   · refine qn 3 rfl<|Qi ?_
     have Y4:=Gr.trans ch ds
     exact⟨rfl,true,Qh,hm,(Xi.gr Y4)⟩
   refine qm rfl<|qv rfl (Jj rfl)<|qm rfl<|Qi ?_
   have Y5:=Gr.trans ch ds
   exact⟨rfl,(!rR.1),Qh,hm,(Xi.gr Y5)⟩
 clear hm;rintro mK NI ⟨hm,pB⟩
 have NJ:=pB.size
 unfold Pf at hm
 refine Zw hm rfl (fun c1 hm=>?_) (fun c1 hm=>?_)
 · refine qs 1 rfl<|qm rfl<|qb ?_
   have zj:=(rT.kz pB)
   cases hm
   exact⟨_,_,rfl,Xj rfl (Qn rfl),rfl,zj⟩
 refine qu<|qs 3 rfl<|qv rfl (Ea (cs:=kb (72623842526232576#64,0#64)) Qj3 rfl (by kernel_rfl))<|qe rfl (Qz (cs:=kb k0) Jq rfl) ?_
 rintro _ NK ⟨NL,rfl,zk,oG,rV⟩
 have NM:=rV.size
 have FS:=oG.lt
 refine qe rfl (Qr Qy rfl rfl rfl oG rfl rfl) ?_
 rintro _ i ⟨iU,rW⟩
 have NN:=rW.size
 refine Qa ?_
 have zl:=(((rT.kz pB).trans rV).md rW)
 refine qj (β:=Int × Qo × Nat × Value × Nat × Nat × Value × Nat × Nat × Value × Nat × Nat) ([2,12]++rg 86 7) (fun⟨d2,bN,bq13,vy15,zy15,gy15,vy16,zy16,gy16,vy17,zy17,gy17⟩=>[(2,.int .i64 d2),(12,.pointer (some ⟨bq13,0,none⟩))]) (fun⟨d2,bN,bq13,vy15,zy15,gy15,vy16,zy16,gy16,vy17,zy17,gy17⟩ wr=>(Qcm d2 bN=some r)∧Qe wr zy15 gy15 195 18 vy15 (bN.Head.Items.map Zc.cs)∧Xk (zy15=0∨i.heap.size≤gy15)∧Qe wr zy16 gy16 65 2 vy16 (bN.Head.Points.map Qx.cs)∧Xk (zy16=0∨i.heap.size≤gy16)∧Qe wr zy17 gy17 5 1 vy17 (bN.Data.map Xx)∧Xk (zy17=0∨i.heap.size≤gy17)∧Bx wr bq13 56 (Qo.cs bN vy15 vy16 vy17)∧i.heap.size≤bq13∧Xk (zy16=0∨zy15=0∨gy16≠gy15)∧Xk (zy17=0∨zy15=0∨gy17≠gy15)∧Xk (zy17=0∨zy16=0∨gy17≠gy16)∧Xk (zy15=0∨gy15≠bq13)∧Xk (zy16=0∨gy16≠bq13)∧Xk (zy17=0∨gy17≠bq13)∧Kz [] i wr) ?_ ?_
 · refine dw [([])] [] (.fork [(0,10)] (.fork [(1,0)] (.fork [(2,0)] (.leaf [(3,0),(4,10),(5,10),(6,10),(7,0),(8,0),(9,10)]) (.leaf [(7,0),(3,0),(4,10),(5,10),(6,10),(8,0),(9,10)])) (.leaf [(7,0),(2,0),(3,0),(4,10),(5,10),(6,10),(8,0),(9,10)])) (.fork [] (.fork [(2,0)] (.fork [(1,0)] (.leaf [(3,0),(4,10),(5,10),(6,10),(7,0),(8,0),(9,10)]) (.leaf [(7,0),(3,0),(4,10),(5,10),(6,10),(8,0),(9,10)])) (.leaf [(7,0),(1,0),(3,0),(4,10),(5,10),(6,10),(8,0),(9,10)])) (.fork [(7,0)] (.leaf [(1,0),(2,0),(3,0),(4,10),(5,10),(6,10),(8,0),(9,10)]) (.leaf [(2,0),(1,0),(3,0),(4,10),(5,10),(6,10),(8,0),(9,10)])))) ?_
   intro b7 bK zm
   refine Zt ?_
   have rX:=(iU.gr bK)
   refine dh 0 rfl rfl (fun w hS=>Qu Qy rfl (Bx.kp rX hS) rfl)<|Zs ?_ (Zt (Zs ?_ ?_))
   · refine Zt ?_
     obtain⟨FT,pC,hm⟩:=Qd hm
     refine qz [] rfl (eC Yb rfl (Yc pC)) ⟨fun _=>Qb,trivial⟩ ?_
     rintro _ FU ⟨rfl,dt⟩
     have FV:=dt.size
     refine kG dt<|Zs ?_ ?_
     · refine Zt<|qz [] rfl (Ko [2] ic Rb rfl rfl (Ks rfl) rfl rfl rfl) ⟨fun _=>Qb,trivial⟩ ?_
       rintro zn FW ⟨zo,xX,f2,d3⟩
       have FX:=d3.size
       have zp:=f2.lth
       refine kG d3<|Zs ?_ ?_
       · refine Xo ?_
         obtain⟨oH,pD,hm⟩:=Qd hm
         refine qz [] rfl (eC Tp rfl (Tq pD (Qe.rd f2))) ⟨fun _=>Qb,trivial⟩ ?_
         rintro _ FY ⟨f3,f4,f5,f6,f7,f8,d4,d5,d6,rfl,ci,f9,cj,ga,b8,d7,mL,mM,mN,iV⟩
         have FZ:=iV.size
         have lf:=ci.lth
         have lh:=cj.lth
         have li:=b8.lth
         refine kG iV ?_
         have iW:=((((Kp.refl ([]) b7).gr dt).gr d3).gr iV)
         refine dn 0 rfl rfl iW<|dn 0 rfl rfl iW<|dn 0 rfl rfl iW<|qz [] rfl (Qz (cs:=Qo.cs (Qo.mk 0#8 0 (Qq.mk [] 0#64 [] k0 k0) 0#8 0#64 [] k0) (.slice none 0 0) (.slice none 0 0) (.slice none 0 0)) Km rfl) ⟨fun _=>Qb,trivial⟩ ?_
         rintro _ F0 ⟨d8,rfl,xY,lj,ck⟩
         have F2:=ck.size
         have zq:=lj.lt
         refine kG ck ?_
         have oI:=(ci.gr ck)
         have oJ:=(cj.gr ck)
         have oK:=(b8.gr ck)
         refine qz [(1,d8)] rfl (Qr Zl rfl rfl (Qo.cs_ones _ _ _ _ (Qe.oneB oI) (Qe.oneB oJ) (Qe.oneB oK)) lj rfl rfl) ⟨fun _=>Qb,trivial⟩ ?_
         rintro _ rY ⟨pE,cl⟩
         have F3:=cl.size
         refine kM cl ?_
         have rZ:=((iW.gr ck).md cl)
         refine dn 0 rfl rfl rZ<|Qi ?_
         have K_589:Kz [] i rY:=((((((Kz.gr (Kz.refl _ _) bK).gr dt).gr d3).gr iV).gr ck).md cl)
         have r0:=(oI.md cl (Qm lf))
         have r1:=(oJ.md cl (Qm lh))
         have r2:=(oK.md cl (Qm li))
         exact⟨rfl,⟨oH.2,oH.1,d8,f3,f4,f5,f6,f7,f8,d4,d5,d6⟩,Qh,hm,r0,⟨(Qk (A:=(fun x=>i.heap.size≤x)) f9)⟩,r1,⟨(Qk (A:=(fun x=>i.heap.size≤x)) ga)⟩,r2,⟨(Qk (A:=(fun x=>i.heap.size≤x)) d7)⟩,pE,(by omega),⟨(Qc mL.o)⟩,⟨(Qc mM.o)⟩,⟨(Qc mN.o)⟩,⟨(Kq (A:=(fun x=>x≠d8)) lf)⟩,⟨(Kq (A:=(fun x=>x≠d8)) lh)⟩,⟨(Kq (A:=(fun x=>x≠d8)) li)⟩,K_589⟩
       refine Xo<|qz [] rfl (Qz (cs:=Qo.cs (Qo.mk 0#8 0 (Qq.mk [] 0#64 [] k0 k0) 0#8 0#64 [] k0) (.slice none 0 0) (.slice none 0 0) (.slice none 0 0)) Km rfl) ⟨fun _=>Qb,trivial⟩ ?_
       rintro _ F4 ⟨d9,rfl,xZ,ll,iX⟩
       have F5:=iX.size
       have zr:=ll.lt
       refine kG iX ?_
       have r3:=(f2.gr iX)
       obtain⟨oL,pF,hm⟩:=Qd hm
       refine qz [] rfl (eC Tp rfl (Tq pF (Qe.rd r3))) ⟨fun _=>Qb,trivial⟩ ?_
       rintro _ F6 ⟨gb,gc,gf,gg,gh,gi,ea,eb,ec,rfl,av,aw,ax,ay,z,B,mO,mP,mQ,iY⟩
       have F7:=iY.size
       have zs:=av.lth
       have zt:=ax.lth
       have zu:=z.lth
       refine kG iY ?_
       have Y6:=Gr.trans (Gr.trans (Gr.trans dt d3) iX) iY
       have iZ:=((Kp.refl ([]) b7).gr Y6)
       refine dn 0 rfl rfl iZ<|dn 0 rfl rfl iZ<|dn 0 rfl rfl iZ ?_
       have r4:=(ll.gr iY)
       refine qz [(1,d9)] rfl (Qr Zl rfl rfl (Qo.cs_ones _ _ _ _ (Qe.oneB av) (Qe.oneB ax) (Qe.oneB z)) r4 rfl rfl) ⟨fun _=>Qb,trivial⟩ ?_
       rintro _ r5 ⟨pG,cm⟩
       have F8:=cm.size
       refine kM cm ?_
       have r6:=(iZ.md cm)
       refine dn 0 rfl rfl r6<|Qi ?_
       have K_604:Kz [] i r5:=(((Kz.gr (Kz.refl _ _) bK).gr Y6).md cm)
       have r7:=(av.md cm (Qt aw))
       have r8:=(ax.md cm (Qt ay))
       have r9:=(z.md cm (Qt B))
       exact⟨rfl,⟨oL.2,oL.1,d9,gb,gc,gf,gg,gh,gi,ea,eb,ec⟩,Qh,hm,r7,⟨(Qk (A:=(fun x=>i.heap.size≤x)) aw)⟩,r8,⟨(Qk (A:=(fun x=>i.heap.size≤x)) ay)⟩,r9,⟨(Qk (A:=(fun x=>i.heap.size≤x)) B)⟩,pG,(by omega),⟨(Qc mO.o)⟩,⟨(Qc mP.o)⟩,⟨(Qc mQ.o)⟩,⟨(Qk (A:=(fun x=>x≠d9)) aw)⟩,⟨(Qk (A:=(fun x=>x≠d9)) ay)⟩,⟨(Qk (A:=(fun x=>x≠d9)) B)⟩,K_604⟩
     refine Xo<|qz [] rfl (Qz (cs:=Qo.cs (Qo.mk 0#8 0 (Qq.mk [] 0#64 [] k0 k0) 0#8 0#64 [] k0) (.slice none 0 0) (.slice none 0 0) (.slice none 0 0)) Km rfl) ⟨fun _=>Qb,trivial⟩ ?_
     rintro _ F9 ⟨ed,rfl,x0,lm,ln⟩
     have Ge:=ln.size
     have zv:=lm.lt
     refine kG ln<|qz [] rfl (Ko [2] ic Rb rfl rfl (Ks rfl) rfl rfl rfl) ⟨fun _=>Qb,trivial⟩ ?_
     rintro zw Gt ⟨zx,ya,lo,i0⟩
     have GA:=i0.size
     have zy:=lo.lth
     refine kG i0 ?_
     obtain⟨oM,pH,hm⟩:=Qd hm
     refine qz [] rfl (eC Tp rfl (Tq pH (Qe.rd lo))) ⟨fun _=>Qb,trivial⟩ ?_
     rintro _ GB ⟨gj,gk,gl,gm,gn,go,ee,ef,eg,rfl,az,aA,aB,aC,C,D,mR,mS,mT,i1⟩
     have GC:=i1.size
     have zz:=az.lth
     have zA:=aB.lth
     have zB:=C.lth
     refine kG i1 ?_
     have Y7:=Gr.trans (Gr.trans (Gr.trans dt ln) i0) i1
     have i2:=((Kp.refl ([]) b7).gr Y7)
     refine dn 0 rfl rfl i2<|dn 0 rfl rfl i2<|dn 0 rfl rfl i2 ?_
     have sa:=((lm.gr i0).gr i1)
     refine qz [(1,ed)] rfl (Qr Zl rfl rfl (Qo.cs_ones _ _ _ _ (Qe.oneB az) (Qe.oneB aB) (Qe.oneB C)) sa rfl rfl) ⟨fun _=>Qb,trivial⟩ ?_
     rintro _ sb ⟨pI,cn⟩
     have GD:=cn.size
     refine kM cn ?_
     have sc:=(i2.md cn)
     refine dn 0 rfl rfl sc<|Qi ?_
     have K_620:Kz [] i sb:=(((Kz.gr (Kz.refl _ _) bK).gr Y7).md cn)
     have sd:=(az.md cn (Qt aA))
     have se:=(aB.md cn (Qt aC))
     have sf:=(C.md cn (Qt D))
     exact⟨rfl,⟨oM.2,oM.1,ed,gj,gk,gl,gm,gn,go,ee,ef,eg⟩,Qh,hm,sd,⟨(Qk (A:=(fun x=>i.heap.size≤x)) aA)⟩,se,⟨(Qk (A:=(fun x=>i.heap.size≤x)) aC)⟩,sf,⟨(Qk (A:=(fun x=>i.heap.size≤x)) D)⟩,pI,(by omega),⟨(Qc mR.o)⟩,⟨(Qc mS.o)⟩,⟨(Qc mT.o)⟩,⟨(Qk (A:=(fun x=>x≠ed)) aA)⟩,⟨(Qk (A:=(fun x=>x≠ed)) aC)⟩,⟨(Qk (A:=(fun x=>x≠ed)) D)⟩,K_620⟩
   · refine Zt<|qz [] rfl (Ko [2] ic Rb rfl rfl (Ks rfl) rfl rfl rfl) ⟨fun _=>Qb,trivial⟩ ?_
     rintro zC GE ⟨zD,yb,dU,du⟩
     have GF:=du.size
     have zE:=dU.lth
     refine kG du<|Zs ?_ ?_
     · refine Zt ?_
       obtain⟨GG,pJ,hm⟩:=Qd hm
       refine qz [] rfl (eC Yb rfl (Yc pJ)) ⟨fun _=>Qb,trivial⟩ ?_
       rintro _ GH ⟨rfl,co⟩
       have GI:=co.size
       refine kG co<|Zs ?_ ?_
       · refine Xo ?_
         have sg:=(dU.gr co)
         obtain⟨oN,pK,hm⟩:=Qd hm
         refine qz [] rfl (eC Tp rfl (Tq pK (Qe.rd sg))) ⟨fun _=>Qb,trivial⟩ ?_
         rintro _ GJ ⟨gp,gq,gs,gu,gv,gw,eh,ei,ej,rfl,cp,gx,cq,gy,b9,ek,mU,mV,mW,i3⟩
         have GK:=i3.size
         have lp:=cp.lth
         have lq:=cq.lth
         have lr:=b9.lth
         refine kG i3 ?_
         have i4:=((((Kp.refl ([]) b7).gr du).gr co).gr i3)
         refine dn 0 rfl rfl i4<|dn 0 rfl rfl i4<|dn 0 rfl rfl i4<|qz [] rfl (Qz (cs:=Qo.cs (Qo.mk 0#8 0 (Qq.mk [] 0#64 [] k0 k0) 0#8 0#64 [] k0) (.slice none 0 0) (.slice none 0 0) (.slice none 0 0)) Km rfl) ⟨fun _=>Qb,trivial⟩ ?_
         rintro _ GL ⟨el,rfl,yc,ls,cr⟩
         have GM:=cr.size
         have zF:=ls.lt
         refine kG cr ?_
         have oO:=(cp.gr cr)
         have oP:=(cq.gr cr)
         have oQ:=(b9.gr cr)
         refine qz [(1,el)] rfl (Qr Zl rfl rfl (Qo.cs_ones _ _ _ _ (Qe.oneB oO) (Qe.oneB oP) (Qe.oneB oQ)) ls rfl rfl) ⟨fun _=>Qb,trivial⟩ ?_
         rintro _ sh ⟨pL,ct⟩
         have GN:=ct.size
         refine kM ct ?_
         have si:=((i4.gr cr).md ct)
         refine dn 0 rfl rfl si<|Qi ?_
         have K_640:Kz [] i sh:=((((((Kz.gr (Kz.refl _ _) bK).gr du).gr co).gr i3).gr cr).md ct)
         have sj:=(oO.md ct (Qm lp))
         have sk:=(oP.md ct (Qm lq))
         have sl:=(oQ.md ct (Qm lr))
         exact⟨rfl,⟨oN.2,oN.1,el,gp,gq,gs,gu,gv,gw,eh,ei,ej⟩,Qh,hm,sj,⟨(Qk (A:=(fun x=>i.heap.size≤x)) gx)⟩,sk,⟨(Qk (A:=(fun x=>i.heap.size≤x)) gy)⟩,sl,⟨(Qk (A:=(fun x=>i.heap.size≤x)) ek)⟩,pL,(by omega),⟨(Qc mU.o)⟩,⟨(Qc mV.o)⟩,⟨(Qc mW.o)⟩,⟨(Kq (A:=(fun x=>x≠el)) lp)⟩,⟨(Kq (A:=(fun x=>x≠el)) lq)⟩,⟨(Kq (A:=(fun x=>x≠el)) lr)⟩,K_640⟩
       refine Xo<|qz [] rfl (Qz (cs:=Qo.cs (Qo.mk 0#8 0 (Qq.mk [] 0#64 [] k0 k0) 0#8 0#64 [] k0) (.slice none 0 0) (.slice none 0 0) (.slice none 0 0)) Km rfl) ⟨fun _=>Qb,trivial⟩ ?_
       rintro _ GO ⟨em,rfl,yd,lu,i5⟩
       have GP:=i5.size
       have zH:=lu.lt
       refine kG i5 ?_
       have sm:=((dU.gr co).gr i5)
       obtain⟨oR,pM,hm⟩:=Qd hm
       refine qz [] rfl (eC Tp rfl (Tq pM (Qe.rd sm))) ⟨fun _=>Qb,trivial⟩ ?_
       rintro _ GQ ⟨gz,gA,gB,gC,gD,gE,en,eo,ep,rfl,aD,aE,aF,aG,E,F,mX,mY,mZ,i6⟩
       have GR:=i6.size
       have zI:=aD.lth
       have zJ:=aF.lth
       have zK:=E.lth
       refine kG i6 ?_
       have Y8:=Gr.trans (Gr.trans (Gr.trans du co) i5) i6
       have i7:=((Kp.refl ([]) b7).gr Y8)
       refine dn 0 rfl rfl i7<|dn 0 rfl rfl i7<|dn 0 rfl rfl i7 ?_
       have sn:=(lu.gr i6)
       refine qz [(1,em)] rfl (Qr Zl rfl rfl (Qo.cs_ones _ _ _ _ (Qe.oneB aD) (Qe.oneB aF) (Qe.oneB E)) sn rfl rfl) ⟨fun _=>Qb,trivial⟩ ?_
       rintro _ so ⟨pN,cu⟩
       have GS:=cu.size
       refine kM cu ?_
       have sp:=(i7.md cu)
       refine dn 0 rfl rfl sp<|Qi ?_
       have K_655:Kz [] i so:=(((Kz.gr (Kz.refl _ _) bK).gr Y8).md cu)
       have sq:=(aD.md cu (Qt aE))
       have sr:=(aF.md cu (Qt aG))
       have ss:=(E.md cu (Qt F))
       exact⟨rfl,⟨oR.2,oR.1,em,gz,gA,gB,gC,gD,gE,en,eo,ep⟩,Qh,hm,sq,⟨(Qk (A:=(fun x=>i.heap.size≤x)) aE)⟩,sr,⟨(Qk (A:=(fun x=>i.heap.size≤x)) aG)⟩,ss,⟨(Qk (A:=(fun x=>i.heap.size≤x)) F)⟩,pN,(by omega),⟨(Qc mX.o)⟩,⟨(Qc mY.o)⟩,⟨(Qc mZ.o)⟩,⟨(Qk (A:=(fun x=>x≠em)) aE)⟩,⟨(Qk (A:=(fun x=>x≠em)) aG)⟩,⟨(Qk (A:=(fun x=>x≠em)) F)⟩,K_655⟩
     refine Xo<|qz [] rfl (Qz (cs:=Qo.cs (Qo.mk 0#8 0 (Qq.mk [] 0#64 [] k0 k0) 0#8 0#64 [] k0) (.slice none 0 0) (.slice none 0 0) (.slice none 0 0)) Km rfl) ⟨fun _=>Qb,trivial⟩ ?_
     rintro _ GT ⟨er,rfl,ye,lv,i8⟩
     have GU:=i8.size
     have zL:=lv.lt
     refine kG i8 ?_
     obtain⟨GV,pO,hm⟩:=Qd hm
     refine qz [] rfl (eC Yb rfl (Yc pO)) ⟨fun _=>Qb,trivial⟩ ?_
     rintro _ GW ⟨rfl,es⟩
     have GX:=es.size
     refine kG es ?_
     have st:=((dU.gr i8).gr es)
     obtain⟨oS,pP,hm⟩:=Qd hm
     refine qz [] rfl (eC Tp rfl (Tq pP (Qe.rd st))) ⟨fun _=>Qb,trivial⟩ ?_
     rintro _ GY ⟨gF,gG,gH,gI,gJ,gK,et,eu,ew,rfl,aH,aI,aJ,aK,G,H,m0,m1,m2,i9⟩
     have GZ:=i9.size
     have zM:=aH.lth
     have zN:=aJ.lth
     have zO:=G.lth
     refine kG i9 ?_
     have Y9:=Gr.trans (Gr.trans (Gr.trans du i8) es) i9
     have ja:=((Kp.refl ([]) b7).gr Y9)
     refine dn 0 rfl rfl ja<|dn 0 rfl rfl ja<|dn 0 rfl rfl ja ?_
     have su:=((lv.gr es).gr i9)
     refine qz [(1,er)] rfl (Qr Zl rfl rfl (Qo.cs_ones _ _ _ _ (Qe.oneB aH) (Qe.oneB aJ) (Qe.oneB G)) su rfl rfl) ⟨fun _=>Qb,trivial⟩ ?_
     rintro _ sv ⟨pQ,cv⟩
     have G0:=cv.size
     refine kM cv ?_
     have sw:=(ja.md cv)
     refine dn 0 rfl rfl sw<|Qi ?_
     have K_671:Kz [] i sv:=(((Kz.gr (Kz.refl _ _) bK).gr Y9).md cv)
     have sx:=(aH.md cv (Qt aI))
     have sy:=(aJ.md cv (Qt aK))
     have sz:=(G.md cv (Qt H))
     exact⟨rfl,⟨oS.2,oS.1,er,gF,gG,gH,gI,gJ,gK,et,eu,ew⟩,Qh,hm,sx,⟨(Qk (A:=(fun x=>i.heap.size≤x)) aI)⟩,sy,⟨(Qk (A:=(fun x=>i.heap.size≤x)) aK)⟩,sz,⟨(Qk (A:=(fun x=>i.heap.size≤x)) H)⟩,pQ,(by omega),⟨(Qc m0.o)⟩,⟨(Qc m1.o)⟩,⟨(Qc m2.o)⟩,⟨(Qk (A:=(fun x=>x≠er)) aI)⟩,⟨(Qk (A:=(fun x=>x≠er)) aK)⟩,⟨(Qk (A:=(fun x=>x≠er)) H)⟩,K_671⟩
   refine Zt<|qz [] rfl (Qz (cs:=Qo.cs (Qo.mk 0#8 0 (Qq.mk [] 0#64 [] k0 k0) 0#8 0#64 [] k0) (.slice none 0 0) (.slice none 0 0) (.slice none 0 0)) Km rfl) ⟨fun _=>Qb,trivial⟩ ?_
   rintro _ Hx ⟨au,rfl,yf,gL,jb⟩
   have HA:=jb.size
   have zP:=gL.lt
   refine kG jb<|Zs ?_ ?_
   · refine Xo ?_
     obtain⟨HB,pR,hm⟩:=Qd hm
     refine qz [] rfl (eC Yb rfl (Yc pR)) ⟨fun _=>Qb,trivial⟩ ?_
     rintro _ HC ⟨rfl,jc⟩
     have HD:=jc.size
     refine kG jc<|qz [] rfl (Ko [2] ic Rb rfl rfl (Ks rfl) rfl rfl rfl) ⟨fun _=>Qb,trivial⟩ ?_
     rintro zQ HE ⟨zR,yg,lw,jd⟩
     have HF:=jd.size
     have zS:=lw.lth
     refine kG jd ?_
     obtain⟨oT,pS,hm⟩:=Qd hm
     refine qz [] rfl (eC Tp rfl (Tq pS (Qe.rd lw))) ⟨fun _=>Qb,trivial⟩ ?_
     rintro _ HG ⟨gM,gN,gO,gP,gQ,gR,ex,ey,ez,rfl,aL,aM,aN,aO,I,J,m3,m4,m5,je⟩
     have HH:=je.size
     have zT:=aL.lth
     have zU:=aN.lth
     have zV:=I.lth
     refine kG je ?_
     have sA:=Gr.trans (Gr.trans (Gr.trans jb jc) jd) je
     have jf:=((Kp.refl ([]) b7).gr sA)
     refine dn 0 rfl rfl jf<|dn 0 rfl rfl jf<|dn 0 rfl rfl jf ?_
     have zW:=Gr.trans (Gr.trans jc jd) je
     have sB:=(gL.gr zW)
     refine qz [(1,au)] rfl (Qr Zl rfl rfl (Qo.cs_ones _ _ _ _ (Qe.oneB aL) (Qe.oneB aN) (Qe.oneB I)) sB rfl rfl) ⟨fun _=>Qb,trivial⟩ ?_
     rintro _ sC ⟨pT,cw⟩
     have HI:=cw.size
     refine kM cw ?_
     have sD:=(jf.md cw)
     refine dn 0 rfl rfl sD<|Qi ?_
     have K_688:Kz [] i sC:=(((Kz.gr (Kz.refl _ _) bK).gr sA).md cw)
     have sE:=(aL.md cw (Qt aM))
     have sF:=(aN.md cw (Qt aO))
     have sG:=(I.md cw (Qt J))
     exact⟨rfl,⟨oT.2,oT.1,au,gM,gN,gO,gP,gQ,gR,ex,ey,ez⟩,Qh,hm,sE,⟨(Qk (A:=(fun x=>i.heap.size≤x)) aM)⟩,sF,⟨(Qk (A:=(fun x=>i.heap.size≤x)) aO)⟩,sG,⟨(Qk (A:=(fun x=>i.heap.size≤x)) J)⟩,pT,(by omega),⟨(Qc m3.o)⟩,⟨(Qc m4.o)⟩,⟨(Qc m5.o)⟩,⟨(Qk (A:=(fun x=>x≠au)) aM)⟩,⟨(Qk (A:=(fun x=>x≠au)) aO)⟩,⟨(Qk (A:=(fun x=>x≠au)) J)⟩,K_688⟩
   refine Xo<|qz [] rfl (Ko [2] ic Rb rfl rfl (Ks rfl) rfl rfl rfl) ⟨fun _=>Qb,trivial⟩ ?_
   rintro zX HJ ⟨zY,yh,lx,jg⟩
   have HK:=jg.size
   have zZ:=lx.lth
   refine kG jg ?_
   obtain⟨HL,pU,hm⟩:=Qd hm
   refine qz [] rfl (eC Yb rfl (Yc pU)) ⟨fun _=>Qb,trivial⟩ ?_
   rintro _ HM ⟨rfl,eA⟩
   have HN:=eA.size
   refine kG eA ?_
   have sH:=(lx.gr eA)
   obtain⟨oU,pV,hm⟩:=Qd hm
   refine qz [] rfl (eC Tp rfl (Tq pV (Qe.rd sH))) ⟨fun _=>Qb,trivial⟩ ?_
   rintro _ HO ⟨gS,gT,gU,gV,gW,gX,eB,eD,eE,rfl,aP,aQ,aR,aS,K,L,m6,m7,m8,jh⟩
   have HP:=jh.size
   have z0:=aP.lth
   have z7:=aR.lth
   have As:=K.lth
   refine kG jh ?_
   have sI:=Gr.trans (Gr.trans (Gr.trans jb jg) eA) jh
   have ji:=((Kp.refl ([]) b7).gr sI)
   refine dn 0 rfl rfl ji<|dn 0 rfl rfl ji<|dn 0 rfl rfl ji ?_
   have At:=Gr.trans (Gr.trans jg eA) jh
   have sJ:=(gL.gr At)
   refine qz [(1,au)] rfl (Qr Zl rfl rfl (Qo.cs_ones _ _ _ _ (Qe.oneB aP) (Qe.oneB aR) (Qe.oneB K)) sJ rfl rfl) ⟨fun _=>Qb,trivial⟩ ?_
   rintro _ sK ⟨pW,cx⟩
   have HQ:=cx.size
   refine kM cx ?_
   have sL:=(ji.md cx)
   refine dn 0 rfl rfl sL<|Qi ?_
   have K_704:Kz [] i sK:=(((Kz.gr (Kz.refl _ _) bK).gr sI).md cx)
   have sM:=(aP.md cx (Qt aQ))
   have sN:=(aR.md cx (Qt aS))
   have sO:=(K.md cx (Qt L))
   exact⟨rfl,⟨oU.2,oU.1,au,gS,gT,gU,gV,gW,gX,eB,eD,eE⟩,Qh,hm,sM,⟨(Qk (A:=(fun x=>i.heap.size≤x)) aQ)⟩,sN,⟨(Qk (A:=(fun x=>i.heap.size≤x)) aS)⟩,sO,⟨(Qk (A:=(fun x=>i.heap.size≤x)) L)⟩,pW,(by omega),⟨(Qc m6.o)⟩,⟨(Qc m7.o)⟩,⟨(Qc m8.o)⟩,⟨(Qk (A:=(fun x=>x≠au)) aQ)⟩,⟨(Qk (A:=(fun x=>x≠au)) aS)⟩,⟨(Qk (A:=(fun x=>x≠au)) L)⟩,K_704⟩
 clear hm;rintro⟨d2,bN,bq13,vy15,zy15,gy15,vy16,zy16,gy16,vy17,zy17,gy17⟩ c ⟨hm,al,yi,am,yj,an,yk,dV,ym,yn,yo,sP,sQ,sR,sS,ly⟩
 have NO:=ly.size
 have HR:=al.lth
 have HS:=am.lth
 have HT:=an.lth
 have HU:=dV.lt
 unfold Qcm at hm
 have AA:=(zl.kz ly)
 refine qj (β:=Int × Qo × Nat × Value × Nat × Nat × Value × Nat × Nat × Value × Nat × Nat) ([4,13]++rg 93 8) (fun⟨gY,cg,bq19,vy21,zy21,gy21,vy22,zy22,gy22,vy23,zy23,gy23⟩=>[(4,.int .i64 gY),(13,.pointer (some ⟨bq19,0,none⟩))]) (fun⟨gY,cg,bq19,vy21,zy21,gy21,vy22,zy22,gy22,vy23,zy23,gy23⟩ wr=>(Qh1 d2 bN gY cg=some r)∧Qe wr zy21 gy21 195 18 vy21 (cg.Head.Items.map Zc.cs)∧Xk (zy21=0∨c.heap.size≤gy21)∧Qe wr zy22 gy22 65 2 vy22 (cg.Head.Points.map Qx.cs)∧Xk (zy22=0∨c.heap.size≤gy22)∧Qe wr zy23 gy23 5 1 vy23 (cg.Data.map Xx)∧Xk (zy23=0∨c.heap.size≤gy23)∧Bx wr bq19 56 (Qo.cs cg vy21 vy22 vy23)∧c.heap.size≤bq19∧Xk (zy22=0∨zy21=0∨gy22≠gy21)∧Xk (zy23=0∨zy21=0∨gy23≠gy21)∧Xk (zy23=0∨zy22=0∨gy23≠gy22)∧Xk (zy21=0∨gy21≠bq19)∧Xk (zy22=0∨gy22≠bq19)∧Xk (zy23=0∨gy23≠bq19)∧Kz [] c wr) ?_ ?_
 · refine dw [([])] [] (.fork [(0,10)] (.fork [(1,0)] (.fork [(2,0)] (.fork [(3,0)] (.leaf [(4,0),(5,10),(6,10),(7,10),(8,0),(9,0),(10,10)]) (.leaf [(8,0),(4,0),(5,10),(6,10),(7,10),(9,0),(10,10)])) (.leaf [(8,0),(3,0),(4,0),(5,10),(6,10),(7,10),(9,0),(10,10)])) (.leaf [(8,0),(2,0),(3,0),(4,0),(5,10),(6,10),(7,10),(9,0),(10,10)])) (.fork [] (.fork [(2,0)] (.fork [(1,0)] (.fork [(3,0)] (.leaf [(4,0),(5,10),(6,10),(7,10),(8,0),(9,0),(10,10)]) (.leaf [(8,0),(4,0),(5,10),(6,10),(7,10),(9,0),(10,10)])) (.leaf [(8,0),(3,0),(4,0),(5,10),(6,10),(7,10),(9,0),(10,10)])) (.fork [] (.fork [(3,0)] (.fork [(1,0)] (.leaf [(4,0),(5,10),(6,10),(7,10),(8,0),(9,0),(10,10)]) (.leaf [(8,0),(4,0),(5,10),(6,10),(7,10),(9,0),(10,10)])) (.leaf [(8,0),(1,0),(4,0),(5,10),(6,10),(7,10),(9,0),(10,10)])) (.fork [(8,0)] (.leaf [(1,0),(3,0),(4,0),(5,10),(6,10),(7,10),(9,0),(10,10)]) (.leaf [(3,0),(1,0),(4,0),(5,10),(6,10),(7,10),(9,0),(10,10)])))) (.fork [(8,0)] (.leaf [(1,0),(2,0),(3,0),(4,0),(5,10),(6,10),(7,10),(9,0),(10,10)]) (.fork [(2,0)] (.leaf [(1,0),(3,0),(4,0),(5,10),(6,10),(7,10),(9,0),(10,10)]) (.leaf [(3,0),(1,0),(4,0),(5,10),(6,10),(7,10),(9,0),(10,10)]))))) ?_
   intro d p AB
   refine Zt ?_
   have sT:=((iU.kz ly).gr p)
   refine dh 0 rfl rfl (fun w hS=>Qu Qy rfl (Bx.kp sT hS) rfl)<|Zs ?_ (Zt (Zs ?_ ?_))
   · refine Zt ?_
     obtain⟨NP,sU,hm⟩:=Qd hm
     refine qz [] rfl (eC Jh rfl (Ji sU)) ⟨fun _=>Qb,trivial⟩ ?_
     rintro _ HW ⟨rfl,ca⟩
     have HX:=ca.size
     refine kG ca<|Zs ?_ ?_
     · refine Zt<|qz [] rfl (Ko [97#8,98#8,99#8] Xx Gn rfl rfl (Ks rfl) rfl rfl rfl) ⟨fun _=>Qb,trivial⟩ ?_
       rintro AC HY ⟨s,yp,gZ,dv⟩
       have HZ:=dv.size
       have pX:=gZ.lth
       refine kG dv<|Zs ?_ ?_
       · refine Zt<|qz [(1,s)] rfl (Yx Tryz.underlying54 Tryz.underlying5 rfl gZ) ⟨fun _=>(Qc ((.inr Qb):1=0∨d.heap.size≤s)),trivial⟩ ?_
         rintro AD H0 ⟨g0,bO⟩
         have H1:=bO.size
         have AE:=g0.lth
         refine⟨Kz.ofKa bO,?_⟩
         refine Zs ?_ ?_
         · refine Xo ?_
           obtain⟨sV,sW,hm⟩:=Qd hm
           refine qz [] rfl (eC Vg rfl (Vh sW g0)) ⟨fun _=>Qb,trivial⟩ ?_
           rintro _ H2 ⟨g1,g2,g3,g4,g5,g6,eF,eG,eH,rfl,cy,g7,cz,g8,cb,eI,m9,na,nb,jj⟩
           have H3:=jj.size
           have lz:=cy.lth
           have lA:=cz.lth
           have lB:=cb.lth
           refine kG jj ?_
           have sX:=Gr.trans ca dv
           have jk:=((((Kp.refl ([]) d).gr sX).ka bO (Qc ((.inr Qb):1=0∨d.heap.size≤s))).gr jj)
           refine dn 0 rfl rfl jk<|dn 0 rfl rfl jk<|dn 0 rfl rfl jk<|qz [] rfl (Qz (cs:=Qo.cs (Qo.mk 0#8 0 (Qq.mk [] 0#64 [] k0 k0) 0#8 0#64 [] k0) (.slice none 0 0) (.slice none 0 0) (.slice none 0 0)) Km rfl) ⟨fun _=>Qb,trivial⟩ ?_
           rintro _ H4 ⟨eJ,rfl,yq,lC,cA⟩
           have H5:=cA.size
           have AF:=lC.lt
           refine kG cA ?_
           have oV:=(cy.gr cA)
           have oW:=(cz.gr cA)
           have oX:=(cb.gr cA)
           refine qz [(1,eJ)] rfl (Qr Zl rfl rfl (Qo.cs_ones _ _ _ _ (Qe.oneB oV) (Qe.oneB oW) (Qe.oneB oX)) lC rfl rfl) ⟨fun _=>Qb,trivial⟩ ?_
           rintro _ sY ⟨pY,cB⟩
           have H6:=cB.size
           refine kM cB ?_
           have sZ:=((jk.gr cA).md cB)
           refine dn 0 rfl rfl sZ<|Qi ?_
           have K_326:Kz [] c sY:=((((((Kz.gr (Kz.refl _ _) p).gr sX).ka bO (Qc ((.inr Qb):1=0∨c.heap.size≤s))).gr jj).gr cA).md cB)
           have s0:=(oV.md cB (Qm lz))
           have s1:=(oW.md cB (Qm lA))
           have s2:=(oX.md cB (Qm lB))
           exact⟨rfl,⟨sV.2,sV.1,eJ,g1,g2,g3,g4,g5,g6,eF,eG,eH⟩,Qh,hm,s0,⟨(Qk (A:=(fun x=>c.heap.size≤x)) g7)⟩,s1,⟨(Qk (A:=(fun x=>c.heap.size≤x)) g8)⟩,s2,⟨(Qk (A:=(fun x=>c.heap.size≤x)) eI)⟩,pY,(by omega),⟨(Qc m9.o)⟩,⟨(Qc na.o)⟩,⟨(Qc nb.o)⟩,⟨(Kq (A:=(fun x=>x≠eJ)) lz)⟩,⟨(Kq (A:=(fun x=>x≠eJ)) lA)⟩,⟨(Kq (A:=(fun x=>x≠eJ)) lB)⟩,K_326⟩
         refine Xo<|qz [] rfl (Qz (cs:=Qo.cs (Qo.mk 0#8 0 (Qq.mk [] 0#64 [] k0 k0) 0#8 0#64 [] k0) (.slice none 0 0) (.slice none 0 0) (.slice none 0 0)) Km rfl) ⟨fun _=>Qb,trivial⟩ ?_
         rintro _ H7 ⟨eK,rfl,yr,lD,eL⟩
         have H8:=eL.size
         have AG:=lD.lt
         refine kG eL ?_
         have s3:=(g0.gr eL)
         obtain⟨s4,s5,hm⟩:=Qd hm
         refine qz [] rfl (eC Vg rfl (Vh s5 s3)) ⟨fun _=>Qb,trivial⟩ ?_
         rintro _ H9 ⟨g9,ha,hb,hc,hd,he,eM,eN,eO,rfl,aT,aU,aV,aW,M,N,nc,nf,ng,eP⟩
         have Id:=eP.size
         have AH:=aT.lth
         have AI:=aV.lth
         have AJ:=M.lth
         refine kG eP ?_
         have s6:=Gr.trans ca dv
         have jl:=(((((Kp.refl ([]) d).gr s6).ka bO (Qc ((.inr Qb):1=0∨d.heap.size≤s))).gr eL).gr eP)
         refine dn 0 rfl rfl jl<|dn 0 rfl rfl jl<|dn 0 rfl rfl jl ?_
         have s7:=(lD.gr eP)
         refine qz [(1,eK)] rfl (Qr Zl rfl rfl (Qo.cs_ones _ _ _ _ (Qe.oneB aT) (Qe.oneB aV) (Qe.oneB M)) s7 rfl rfl) ⟨fun _=>Qb,trivial⟩ ?_
         rintro _ s8 ⟨pZ,cC⟩
         have If:=cC.size
         refine kM cC ?_
         have s9:=(jl.md cC)
         refine dn 0 rfl rfl s9<|Qi ?_
         have K_341:Kz [] c s8:=((((((Kz.gr (Kz.refl _ _) p).gr s6).ka bO (Qc ((.inr Qb):1=0∨c.heap.size≤s))).gr eL).gr eP).md cC)
         have ta:=(aT.md cC (Qt aU))
         have tb:=(aV.md cC (Qt aW))
         have tc:=(M.md cC (Qt N))
         exact⟨rfl,⟨s4.2,s4.1,eK,g9,ha,hb,hc,hd,he,eM,eN,eO⟩,Qh,hm,ta,⟨(Qk (A:=(fun x=>c.heap.size≤x)) aU)⟩,tb,⟨(Qk (A:=(fun x=>c.heap.size≤x)) aW)⟩,tc,⟨(Qk (A:=(fun x=>c.heap.size≤x)) N)⟩,pZ,(by omega),⟨(Qc nc.o)⟩,⟨(Qc nf.o)⟩,⟨(Qc ng.o)⟩,⟨(Qk (A:=(fun x=>x≠eK)) aU)⟩,⟨(Qk (A:=(fun x=>x≠eK)) aW)⟩,⟨(Qk (A:=(fun x=>x≠eK)) N)⟩,K_341⟩
       refine Xo<|qz [] rfl (Qz (cs:=Qo.cs (Qo.mk 0#8 0 (Qq.mk [] 0#64 [] k0 k0) 0#8 0#64 [] k0) (.slice none 0 0) (.slice none 0 0) (.slice none 0 0)) Km rfl) ⟨fun _=>Qb,trivial⟩ ?_
       rintro _ In ⟨dy,rfl,ys,lE,eQ⟩
       have Is:=eQ.size
       have AK:=lE.lt
       refine kG eQ ?_
       have td:=(gZ.gr eQ)
       refine qz [(1,s)] rfl (Yx Tryz.underlying54 Tryz.underlying5 rfl td) ⟨fun _=>(Qc ((.inr Qb):1=0∨d.heap.size≤s)),trivial⟩ ?_
       rintro AL Ix ⟨lF,cD⟩
       have IA:=cD.size
       have AM:=lF.lth
       refine⟨Kz.ofKa cD,?_⟩
       obtain⟨te,tf,hm⟩:=Qd hm
       refine qz [] rfl (eC Vg rfl (Vh tf lF)) ⟨fun _=>Qb,trivial⟩ ?_
       rintro _ IB ⟨hf,hg,hh,hi,hj,hk,eR,eS,eT,rfl,aX,aY,aZ,a0,O,P,nh,ni,nj,eU⟩
       have IC:=eU.size
       have AN:=aX.lth
       have AO:=aZ.lth
       have AP:=O.lth
       refine kG eU ?_
       have jm:=((((((Kp.refl ([]) d).gr ca).gr dv).gr eQ).ka cD (Qc ((.inr Qb):1=0∨d.heap.size≤s))).gr eU)
       refine dn 0 rfl rfl jm<|dn 0 rfl rfl jm<|dn 0 rfl rfl jm ?_
       have tg:=((lE.ka cD (Qc (Qm (b:=dy) pX))).gr eU)
       refine qz [(1,dy)] rfl (Qr Zl rfl rfl (Qo.cs_ones _ _ _ _ (Qe.oneB aX) (Qe.oneB aZ) (Qe.oneB O)) tg rfl rfl) ⟨fun _=>Qb,trivial⟩ ?_
       rintro _ th ⟨p0,cE⟩
       have ID:=cE.size
       refine kM cE ?_
       have ti:=(jm.md cE)
       refine dn 0 rfl rfl ti<|Qi ?_
       have K_358:Kz [] c th:=(((((((Kz.gr (Kz.refl _ _) p).gr ca).gr dv).gr eQ).ka cD (Qc ((.inr Qb):1=0∨c.heap.size≤s))).gr eU).md cE)
       have tj:=(aX.md cE (Qt aY))
       have tk:=(aZ.md cE (Qt a0))
       have tl:=(O.md cE (Qt P))
       exact⟨rfl,⟨te.2,te.1,dy,hf,hg,hh,hi,hj,hk,eR,eS,eT⟩,Qh,hm,tj,⟨(Qk (A:=(fun x=>c.heap.size≤x)) aY)⟩,tk,⟨(Qk (A:=(fun x=>c.heap.size≤x)) a0)⟩,tl,⟨(Qk (A:=(fun x=>c.heap.size≤x)) P)⟩,p0,(by omega),⟨(Qc nh.o)⟩,⟨(Qc ni.o)⟩,⟨(Qc nj.o)⟩,⟨(Qk (A:=(fun x=>x≠dy)) aY)⟩,⟨(Qk (A:=(fun x=>x≠dy)) a0)⟩,⟨(Qk (A:=(fun x=>x≠dy)) P)⟩,K_358⟩
     refine Xo<|qz [] rfl (Qz (cs:=Qo.cs (Qo.mk 0#8 0 (Qq.mk [] 0#64 [] k0 k0) 0#8 0#64 [] k0) (.slice none 0 0) (.slice none 0 0) (.slice none 0 0)) Km rfl) ⟨fun _=>Qb,trivial⟩ ?_
     rintro _ IE ⟨dz,rfl,yt,lG,jn⟩
     have IF:=jn.size
     have AQ:=lG.lt
     refine kG jn<|qz [] rfl (Ko [97#8,98#8,99#8] Xx Gn rfl rfl (Ks rfl) rfl rfl rfl) ⟨fun _=>Qb,trivial⟩ ?_
     rintro AR IG ⟨cF,yu,lH,eV⟩
     have IH:=eV.size
     have AS:=lH.lth
     refine kG eV<|qz [(1,cF)] rfl (Yx Tryz.underlying54 Tryz.underlying5 rfl lH) ⟨fun _=>(Qc ((.inr Qb):1=0∨d.heap.size≤cF)),trivial⟩ ?_
     rintro AT II ⟨lI,cG⟩
     have IJ:=cG.size
     have AU:=lI.lth
     refine⟨Kz.ofKa cG,?_⟩
     obtain⟨tm,tn,hm⟩:=Qd hm
     refine qz [] rfl (eC Vg rfl (Vh tn lI)) ⟨fun _=>Qb,trivial⟩ ?_
     rintro _ IK ⟨hl,hn,ho,hp,hq,hr,eW,eX,eY,rfl,a1,a2,a3,a4,Q,R,nk,nl,nm,eZ⟩
     have IL:=eZ.size
     have AV:=a1.lth
     have AW:=a3.lth
     have AX:=Q.lth
     refine kG eZ ?_
     have jo:=((((((Kp.refl ([]) d).gr ca).gr jn).gr eV).ka cG (Qc ((.inr Qb):1=0∨d.heap.size≤cF))).gr eZ)
     refine dn 0 rfl rfl jo<|dn 0 rfl rfl jo<|dn 0 rfl rfl jo ?_
     have tp:=(((lG.gr eV).ka cG (Qc ((.inr Qb):1=0∨cF≠dz))).gr eZ)
     refine qz [(1,dz)] rfl (Qr Zl rfl rfl (Qo.cs_ones _ _ _ _ (Qe.oneB a1) (Qe.oneB a3) (Qe.oneB Q)) tp rfl rfl) ⟨fun _=>Qb,trivial⟩ ?_
     rintro _ tq ⟨p1,cH⟩
     have IM:=cH.size
     refine kM cH ?_
     have tr:=(jo.md cH)
     refine dn 0 rfl rfl tr<|Qi ?_
     have K_376:Kz [] c tq:=(((((((Kz.gr (Kz.refl _ _) p).gr ca).gr jn).gr eV).ka cG (Qc ((.inr Qb):1=0∨c.heap.size≤cF))).gr eZ).md cH)
     have ts:=(a1.md cH (Qt a2))
     have tt:=(a3.md cH (Qt a4))
     have tu:=(Q.md cH (Qt R))
     exact⟨rfl,⟨tm.2,tm.1,dz,hl,hn,ho,hp,hq,hr,eW,eX,eY⟩,Qh,hm,ts,⟨(Qk (A:=(fun x=>c.heap.size≤x)) a2)⟩,tt,⟨(Qk (A:=(fun x=>c.heap.size≤x)) a4)⟩,tu,⟨(Qk (A:=(fun x=>c.heap.size≤x)) R)⟩,p1,(by omega),⟨(Qc nk.o)⟩,⟨(Qc nl.o)⟩,⟨(Qc nm.o)⟩,⟨(Qk (A:=(fun x=>x≠dz)) a2)⟩,⟨(Qk (A:=(fun x=>x≠dz)) a4)⟩,⟨(Qk (A:=(fun x=>x≠dz)) R)⟩,K_376⟩
   · refine Zt<|qz [] rfl (Ko [97#8,98#8,99#8] Xx Gn rfl rfl (Ks rfl) rfl rfl rfl) ⟨fun _=>Qb,trivial⟩ ?_
     rintro AY IN ⟨f,yv,bP,q⟩
     have IO:=q.size
     have ht:=bP.lth
     refine kG q<|Zs ?_ (Zt (Zs ?_ ?_))
     · refine Zt ?_
       obtain⟨NQ,tv,hm⟩:=Qd hm
       refine qz [] rfl (eC Jh rfl (Ji tv)) ⟨fun _=>Qb,trivial⟩ ?_
       rintro _ IP ⟨rfl,cc⟩
       have IQ:=cc.size
       refine kG cc<|Zs ?_ ?_
       · refine Zt ?_
         have tw:=(bP.gr cc)
         refine qz [(1,f)] rfl (Yx Tryz.underlying54 Tryz.underlying5 rfl tw) ⟨fun _=>(Qc ((.inr Qb):1=0∨d.heap.size≤f)),trivial⟩ ?_
         rintro AZ IR ⟨hu,bQ⟩
         have IS:=bQ.size
         have A0:=hu.lth
         refine⟨Kz.ofKa bQ,?_⟩
         refine Zs ?_ ?_
         · refine Xo ?_
           obtain⟨tx,ty,hm⟩:=Qd hm
           refine qz [] rfl (eC Vg rfl (Vh ty hu)) ⟨fun _=>Qb,trivial⟩ ?_
           rintro _ IU ⟨hw,hx,hy,hz,hA,hB,e0,e1,e2,rfl,cI,hC,cJ,hD,cd,e3,nn,no,np,jp⟩
           have IV:=jp.size
           have lJ:=cI.lth
           have lK:=cJ.lth
           have lL:=cd.lth
           refine kG jp ?_
           have tz:=Gr.trans q cc
           have jq:=((((Kp.refl ([]) d).gr tz).ka bQ (Qc ((.inr Qb):1=0∨d.heap.size≤f))).gr jp)
           refine dn 0 rfl rfl jq<|dn 0 rfl rfl jq<|dn 0 rfl rfl jq<|qz [] rfl (Qz (cs:=Qo.cs (Qo.mk 0#8 0 (Qq.mk [] 0#64 [] k0 k0) 0#8 0#64 [] k0) (.slice none 0 0) (.slice none 0 0) (.slice none 0 0)) Km rfl) ⟨fun _=>Qb,trivial⟩ ?_
           rintro _ IW ⟨e4,rfl,yw,lM,cK⟩
           have IX:=cK.size
           have A1:=lM.lt
           refine kG cK ?_
           have oY:=(cI.gr cK)
           have oZ:=(cJ.gr cK)
           have o0:=(cd.gr cK)
           refine qz [(1,e4)] rfl (Qr Zl rfl rfl (Qo.cs_ones _ _ _ _ (Qe.oneB oY) (Qe.oneB oZ) (Qe.oneB o0)) lM rfl rfl) ⟨fun _=>Qb,trivial⟩ ?_
           rintro _ tA ⟨p2,cL⟩
           have IY:=cL.size
           refine kM cL ?_
           have tB:=((jq.gr cK).md cL)
           refine dn 0 rfl rfl tB<|Qi ?_
           have K_398:Kz [] c tA:=((((((Kz.gr (Kz.refl _ _) p).gr tz).ka bQ (Qc ((.inr Qb):1=0∨c.heap.size≤f))).gr jp).gr cK).md cL)
           have tC:=(oY.md cL (Qm lJ))
           have tD:=(oZ.md cL (Qm lK))
           have tE:=(o0.md cL (Qm lL))
           exact⟨rfl,⟨tx.2,tx.1,e4,hw,hx,hy,hz,hA,hB,e0,e1,e2⟩,Qh,hm,tC,⟨(Qk (A:=(fun x=>c.heap.size≤x)) hC)⟩,tD,⟨(Qk (A:=(fun x=>c.heap.size≤x)) hD)⟩,tE,⟨(Qk (A:=(fun x=>c.heap.size≤x)) e3)⟩,p2,(by omega),⟨(Qc nn.o)⟩,⟨(Qc no.o)⟩,⟨(Qc np.o)⟩,⟨(Kq (A:=(fun x=>x≠e4)) lJ)⟩,⟨(Kq (A:=(fun x=>x≠e4)) lK)⟩,⟨(Kq (A:=(fun x=>x≠e4)) lL)⟩,K_398⟩
         refine Xo<|qz [] rfl (Qz (cs:=Qo.cs (Qo.mk 0#8 0 (Qq.mk [] 0#64 [] k0 k0) 0#8 0#64 [] k0) (.slice none 0 0) (.slice none 0 0) (.slice none 0 0)) Km rfl) ⟨fun _=>Qb,trivial⟩ ?_
         rintro _ IZ ⟨e5,rfl,yx,lN,e6⟩
         have I0:=e6.size
         have A2:=lN.lt
         refine kG e6 ?_
         have tF:=(hu.gr e6)
         obtain⟨tG,tH,hm⟩:=Qd hm
         refine qz [] rfl (eC Vg rfl (Vh tH tF)) ⟨fun _=>Qb,trivial⟩ ?_
         rintro _ I1 ⟨hE,hF,hG,hH,hI,hJ,e7,e8,e9,rfl,a5,a6,a7,a8,S,T,nq,nr,nt,fa⟩
         have I2:=fa.size
         have A3:=a5.lth
         have A4:=a7.lth
         have A5:=S.lth
         refine kG fa ?_
         have tI:=Gr.trans q cc
         have jr:=(((((Kp.refl ([]) d).gr tI).ka bQ (Qc ((.inr Qb):1=0∨d.heap.size≤f))).gr e6).gr fa)
         refine dn 0 rfl rfl jr<|dn 0 rfl rfl jr<|dn 0 rfl rfl jr ?_
         have tJ:=(lN.gr fa)
         refine qz [(1,e5)] rfl (Qr Zl rfl rfl (Qo.cs_ones _ _ _ _ (Qe.oneB a5) (Qe.oneB a7) (Qe.oneB S)) tJ rfl rfl) ⟨fun _=>Qb,trivial⟩ ?_
         rintro _ tK ⟨p3,cM⟩
         have I3:=cM.size
         refine kM cM ?_
         have tL:=(jr.md cM)
         refine dn 0 rfl rfl tL<|Qi ?_
         have K_413:Kz [] c tK:=((((((Kz.gr (Kz.refl _ _) p).gr tI).ka bQ (Qc ((.inr Qb):1=0∨c.heap.size≤f))).gr e6).gr fa).md cM)
         have tM:=(a5.md cM (Qt a6))
         have tN:=(a7.md cM (Qt a8))
         have tO:=(S.md cM (Qt T))
         exact⟨rfl,⟨tG.2,tG.1,e5,hE,hF,hG,hH,hI,hJ,e7,e8,e9⟩,Qh,hm,tM,⟨(Qk (A:=(fun x=>c.heap.size≤x)) a6)⟩,tN,⟨(Qk (A:=(fun x=>c.heap.size≤x)) a8)⟩,tO,⟨(Qk (A:=(fun x=>c.heap.size≤x)) T)⟩,p3,(by omega),⟨(Qc nq.o)⟩,⟨(Qc nr.o)⟩,⟨(Qc nt.o)⟩,⟨(Qk (A:=(fun x=>x≠e5)) a6)⟩,⟨(Qk (A:=(fun x=>x≠e5)) a8)⟩,⟨(Qk (A:=(fun x=>x≠e5)) T)⟩,K_413⟩
       refine Xo<|qz [] rfl (Qz (cs:=Qo.cs (Qo.mk 0#8 0 (Qq.mk [] 0#64 [] k0 k0) 0#8 0#64 [] k0) (.slice none 0 0) (.slice none 0 0) (.slice none 0 0)) Km rfl) ⟨fun _=>Qb,trivial⟩ ?_
       rintro _ I4 ⟨dA,rfl,yy,lO,fb⟩
       have I5:=fb.size
       have A6:=lO.lt
       refine kG fb ?_
       have tP:=((bP.gr cc).gr fb)
       refine qz [(1,f)] rfl (Yx Tryz.underlying54 Tryz.underlying5 rfl tP) ⟨fun _=>(Qc ((.inr Qb):1=0∨d.heap.size≤f)),trivial⟩ ?_
       rintro A7 I6 ⟨lP,cN⟩
       have I7:=cN.size
       have A8:=lP.lth
       refine⟨Kz.ofKa cN,?_⟩
       obtain⟨tQ,tR,hm⟩:=Qd hm
       refine qz [] rfl (eC Vg rfl (Vh tR lP)) ⟨fun _=>Qb,trivial⟩ ?_
       rintro _ I8 ⟨hK,hL,hM,hN,hO,hP,fc,fd,fe,rfl,a9,ba,bb,bc,U,V,nu,nv,nw,ff⟩
       have I9:=ff.size
       have A9:=a9.lth
       have Be:=bb.lth
       have By:=U.lth
       refine kG ff ?_
       have js:=((((((Kp.refl ([]) d).gr q).gr cc).gr fb).ka cN (Qc ((.inr Qb):1=0∨d.heap.size≤f))).gr ff)
       refine dn 0 rfl rfl js<|dn 0 rfl rfl js<|dn 0 rfl rfl js ?_
       have tS:=((lO.ka cN (Qc (Qm (b:=dA) ht))).gr ff)
       refine qz [(1,dA)] rfl (Qr Zl rfl rfl (Qo.cs_ones _ _ _ _ (Qe.oneB a9) (Qe.oneB bb) (Qe.oneB U)) tS rfl rfl) ⟨fun _=>Qb,trivial⟩ ?_
       rintro _ tT ⟨p4,cO⟩
       have Ja:=cO.size
       refine kM cO ?_
       have tU:=(js.md cO)
       refine dn 0 rfl rfl tU<|Qi ?_
       have K_430:Kz [] c tT:=(((((((Kz.gr (Kz.refl _ _) p).gr q).gr cc).gr fb).ka cN (Qc ((.inr Qb):1=0∨c.heap.size≤f))).gr ff).md cO)
       have tV:=(a9.md cO (Qt ba))
       have tW:=(bb.md cO (Qt bc))
       have tX:=(U.md cO (Qt V))
       exact⟨rfl,⟨tQ.2,tQ.1,dA,hK,hL,hM,hN,hO,hP,fc,fd,fe⟩,Qh,hm,tV,⟨(Qk (A:=(fun x=>c.heap.size≤x)) ba)⟩,tW,⟨(Qk (A:=(fun x=>c.heap.size≤x)) bc)⟩,tX,⟨(Qk (A:=(fun x=>c.heap.size≤x)) V)⟩,p4,(by omega),⟨(Qc nu.o)⟩,⟨(Qc nv.o)⟩,⟨(Qc nw.o)⟩,⟨(Qk (A:=(fun x=>x≠dA)) ba)⟩,⟨(Qk (A:=(fun x=>x≠dA)) bc)⟩,⟨(Qk (A:=(fun x=>x≠dA)) V)⟩,K_430⟩
     · refine Zt<|qz [(1,f)] rfl (Yx Tryz.underlying54 Tryz.underlying5 rfl bP) ⟨fun _=>(Qc ((.inr Qb):1=0∨d.heap.size≤f)),trivial⟩ ?_
       rintro BB Jd ⟨dW,W⟩
       have Jx:=W.size
       have BC:=dW.lth
       refine⟨Kz.ofKa W,?_⟩
       refine Zs ?_ ?_
       · refine Zt ?_
         obtain⟨NR,tY,hm⟩:=Qd hm
         refine qz [] rfl (eC Jh rfl (Ji tY)) ⟨fun _=>Qb,trivial⟩ ?_
         rintro _ JA ⟨rfl,ce⟩
         have JB:=ce.size
         refine kG ce<|Zs ?_ ?_
         · refine Xo ?_
           have tZ:=(dW.gr ce)
           obtain⟨t0,t1,hm⟩:=Qd hm
           refine qz [] rfl (eC Vg rfl (Vh t1 tZ)) ⟨fun _=>Qb,trivial⟩ ?_
           rintro _ JC ⟨hQ,hR,hT,hU,hV,hW,fg,fh,fi,rfl,cP,hX,cQ,hY,cf,fj,nx,ny,nz,jt⟩
           have JD:=jt.size
           have lQ:=cP.lth
           have lR:=cQ.lth
           have lS:=cf.lth
           refine kG jt ?_
           have ju:=(((((Kp.refl ([]) d).gr q).ka W (Qc ((.inr Qb):1=0∨d.heap.size≤f))).gr ce).gr jt)
           refine dn 0 rfl rfl ju<|dn 0 rfl rfl ju<|dn 0 rfl rfl ju<|qz [] rfl (Qz (cs:=Qo.cs (Qo.mk 0#8 0 (Qq.mk [] 0#64 [] k0 k0) 0#8 0#64 [] k0) (.slice none 0 0) (.slice none 0 0) (.slice none 0 0)) Km rfl) ⟨fun _=>Qb,trivial⟩ ?_
           rintro _ JE ⟨fk,rfl,yz,lT,cR⟩
           have JF:=cR.size
           have BD:=lT.lt
           refine kG cR ?_
           have o1:=(cP.gr cR)
           have o2:=(cQ.gr cR)
           have o3:=(cf.gr cR)
           refine qz [(1,fk)] rfl (Qr Zl rfl rfl (Qo.cs_ones _ _ _ _ (Qe.oneB o1) (Qe.oneB o2) (Qe.oneB o3)) lT rfl rfl) ⟨fun _=>Qb,trivial⟩ ?_
           rintro _ t2 ⟨p5,cS⟩
           have JG:=cS.size
           refine kM cS ?_
           have t3:=((ju.gr cR).md cS)
           refine dn 0 rfl rfl t3<|Qi ?_
           have K_450:Kz [] c t2:=(((((((Kz.gr (Kz.refl _ _) p).gr q).ka W (Qc ((.inr Qb):1=0∨c.heap.size≤f))).gr ce).gr jt).gr cR).md cS)
           have t4:=(o1.md cS (Qm lQ))
           have t5:=(o2.md cS (Qm lR))
           have t6:=(o3.md cS (Qm lS))
           exact⟨rfl,⟨t0.2,t0.1,fk,hQ,hR,hT,hU,hV,hW,fg,fh,fi⟩,Qh,hm,t4,⟨(Qk (A:=(fun x=>c.heap.size≤x)) hX)⟩,t5,⟨(Qk (A:=(fun x=>c.heap.size≤x)) hY)⟩,t6,⟨(Qk (A:=(fun x=>c.heap.size≤x)) fj)⟩,p5,(by omega),⟨(Qc nx.o)⟩,⟨(Qc ny.o)⟩,⟨(Qc nz.o)⟩,⟨(Kq (A:=(fun x=>x≠fk)) lQ)⟩,⟨(Kq (A:=(fun x=>x≠fk)) lR)⟩,⟨(Kq (A:=(fun x=>x≠fk)) lS)⟩,K_450⟩
         refine Xo<|qz [] rfl (Qz (cs:=Qo.cs (Qo.mk 0#8 0 (Qq.mk [] 0#64 [] k0 k0) 0#8 0#64 [] k0) (.slice none 0 0) (.slice none 0 0) (.slice none 0 0)) Km rfl) ⟨fun _=>Qb,trivial⟩ ?_
         rintro _ JH ⟨fl,rfl,yA,lU,fm⟩
         have JI:=fm.size
         have BE:=lU.lt
         refine kG fm ?_
         have t7:=((dW.gr ce).gr fm)
         obtain⟨t8,t9,hm⟩:=Qd hm
         refine qz [] rfl (eC Vg rfl (Vh t9 t7)) ⟨fun _=>Qb,trivial⟩ ?_
         rintro _ JJ ⟨hZ,h0,h1,h2,h3,h4,fn,fo,fp,rfl,bd,be,bf,bg,X,Y,nA,nB,nC,fq⟩
         have JK:=fq.size
         have BF:=bd.lth
         have BG:=bf.lth
         have BH:=X.lth
         refine kG fq ?_
         have jv:=((((((Kp.refl ([]) d).gr q).ka W (Qc ((.inr Qb):1=0∨d.heap.size≤f))).gr ce).gr fm).gr fq)
         refine dn 0 rfl rfl jv<|dn 0 rfl rfl jv<|dn 0 rfl rfl jv ?_
         have ua:=(lU.gr fq)
         refine qz [(1,fl)] rfl (Qr Zl rfl rfl (Qo.cs_ones _ _ _ _ (Qe.oneB bd) (Qe.oneB bf) (Qe.oneB X)) ua rfl rfl) ⟨fun _=>Qb,trivial⟩ ?_
         rintro _ ub ⟨p6,cT⟩
         have JL:=cT.size
         refine kM cT ?_
         have uc:=(jv.md cT)
         refine dn 0 rfl rfl uc<|Qi ?_
         have K_465:Kz [] c ub:=(((((((Kz.gr (Kz.refl _ _) p).gr q).ka W (Qc ((.inr Qb):1=0∨c.heap.size≤f))).gr ce).gr fm).gr fq).md cT)
         have ud:=(bd.md cT (Qt be))
         have ue:=(bf.md cT (Qt bg))
         have uf:=(X.md cT (Qt Y))
         exact⟨rfl,⟨t8.2,t8.1,fl,hZ,h0,h1,h2,h3,h4,fn,fo,fp⟩,Qh,hm,ud,⟨(Qk (A:=(fun x=>c.heap.size≤x)) be)⟩,ue,⟨(Qk (A:=(fun x=>c.heap.size≤x)) bg)⟩,uf,⟨(Qk (A:=(fun x=>c.heap.size≤x)) Y)⟩,p6,(by omega),⟨(Qc nA.o)⟩,⟨(Qc nB.o)⟩,⟨(Qc nC.o)⟩,⟨(Qk (A:=(fun x=>x≠fl)) be)⟩,⟨(Qk (A:=(fun x=>x≠fl)) bg)⟩,⟨(Qk (A:=(fun x=>x≠fl)) Y)⟩,K_465⟩
       refine Xo<|qz [] rfl (Qz (cs:=Qo.cs (Qo.mk 0#8 0 (Qq.mk [] 0#64 [] k0 k0) 0#8 0#64 [] k0) (.slice none 0 0) (.slice none 0 0) (.slice none 0 0)) Km rfl) ⟨fun _=>Qb,trivial⟩ ?_
       rintro _ JM ⟨fr,rfl,yB,lV,fs⟩
       have JN:=fs.size
       have BI:=lV.lt
       refine kG fs ?_
       obtain⟨NS,ug,hm⟩:=Qd hm
       refine qz [] rfl (eC Jh rfl (Ji ug)) ⟨fun _=>Qb,trivial⟩ ?_
       rintro _ JO ⟨rfl,dB⟩
       have JP:=dB.size
       refine kG dB ?_
       have uh:=((dW.gr fs).gr dB)
       obtain⟨ui,uj,hm⟩:=Qd hm
       refine qz [] rfl (eC Vg rfl (Vh uj uh)) ⟨fun _=>Qb,trivial⟩ ?_
       rintro _ JQ ⟨h5,h6,h7,h8,h9,ia,ft,fu,fv,rfl,bh,bi,bj,bk,Z,aa,nD,nE,nF,fw⟩
       have JR:=fw.size
       have BJ:=bh.lth
       have BK:=bj.lth
       have BL:=Z.lth
       refine kG fw ?_
       have jw:=((((((Kp.refl ([]) d).gr q).ka W (Qc ((.inr Qb):1=0∨d.heap.size≤f))).gr fs).gr dB).gr fw)
       refine dn 0 rfl rfl jw<|dn 0 rfl rfl jw<|dn 0 rfl rfl jw ?_
       have uk:=((lV.gr dB).gr fw)
       refine qz [(1,fr)] rfl (Qr Zl rfl rfl (Qo.cs_ones _ _ _ _ (Qe.oneB bh) (Qe.oneB bj) (Qe.oneB Z)) uk rfl rfl) ⟨fun _=>Qb,trivial⟩ ?_
       rintro _ ul ⟨p7,cU⟩
       have JS:=cU.size
       refine kM cU ?_
       have um:=(jw.md cU)
       refine dn 0 rfl rfl um<|Qi ?_
       have K_481:Kz [] c ul:=(((((((Kz.gr (Kz.refl _ _) p).gr q).ka W (Qc ((.inr Qb):1=0∨c.heap.size≤f))).gr fs).gr dB).gr fw).md cU)
       have uo:=(bh.md cU (Qt bi))
       have uq:=(bj.md cU (Qt bk))
       have ur:=(Z.md cU (Qt aa))
       exact⟨rfl,⟨ui.2,ui.1,fr,h5,h6,h7,h8,h9,ia,ft,fu,fv⟩,Qh,hm,uo,⟨(Qk (A:=(fun x=>c.heap.size≤x)) bi)⟩,uq,⟨(Qk (A:=(fun x=>c.heap.size≤x)) bk)⟩,ur,⟨(Qk (A:=(fun x=>c.heap.size≤x)) aa)⟩,p7,(by omega),⟨(Qc nD.o)⟩,⟨(Qc nE.o)⟩,⟨(Qc nF.o)⟩,⟨(Qk (A:=(fun x=>x≠fr)) bi)⟩,⟨(Qk (A:=(fun x=>x≠fr)) bk)⟩,⟨(Qk (A:=(fun x=>x≠fr)) aa)⟩,K_481⟩
     refine Zt<|qz [] rfl (Qz (cs:=Qo.cs (Qo.mk 0#8 0 (Qq.mk [] 0#64 [] k0 k0) 0#8 0#64 [] k0) (.slice none 0 0) (.slice none 0 0) (.slice none 0 0)) Km rfl) ⟨fun _=>Qb,trivial⟩ ?_
     rintro _ JT ⟨y,rfl,yC,ib,cV⟩
     have JU:=cV.size
     have BM:=ib.lt
     refine kG cV<|Zs ?_ ?_
     · refine Xo ?_
       obtain⟨NT,us,hm⟩:=Qd hm
       refine qz [] rfl (eC Jh rfl (Ji us)) ⟨fun _=>Qb,trivial⟩ ?_
       rintro _ JV ⟨rfl,dC⟩
       have JW:=dC.size
       refine kG dC ?_
       have ut:=((bP.gr cV).gr dC)
       refine qz [(1,f)] rfl (Yx Tryz.underlying54 Tryz.underlying5 rfl ut) ⟨fun _=>(Qc ((.inr Qb):1=0∨d.heap.size≤f)),trivial⟩ ?_
       rintro BN JX ⟨lW,cW⟩
       have JY:=cW.size
       have BO:=lW.lth
       refine⟨Kz.ofKa cW,?_⟩
       obtain⟨uu,uv,hm⟩:=Qd hm
       refine qz [] rfl (eC Vg rfl (Vh uv lW)) ⟨fun _=>Qb,trivial⟩ ?_
       rintro _ JZ ⟨ie,ig,ih,ii,ij,ik,fx,fy,fz,rfl,bl,bm,bn,bo,ab,ac,nG,nH,nI,fA⟩
       have J0:=fA.size
       have BP:=bl.lth
       have BQ:=bn.lth
       have BR:=ab.lth
       refine kG fA ?_
       have jx:=((((((Kp.refl ([]) d).gr q).gr cV).gr dC).ka cW (Qc ((.inr Qb):1=0∨d.heap.size≤f))).gr fA)
       refine dn 0 rfl rfl jx<|dn 0 rfl rfl jx<|dn 0 rfl rfl jx ?_
       have uw:=(((ib.gr dC).ka cW (Qc (Qm (b:=y) ht))).gr fA)
       refine qz [(1,y)] rfl (Qr Zl rfl rfl (Qo.cs_ones _ _ _ _ (Qe.oneB bl) (Qe.oneB bn) (Qe.oneB ab)) uw rfl rfl) ⟨fun _=>Qb,trivial⟩ ?_
       rintro _ ux ⟨p8,cX⟩
       have J1:=cX.size
       refine kM cX ?_
       have uy:=(jx.md cX)
       refine dn 0 rfl rfl uy<|Qi ?_
       have K_499:Kz [] c ux:=(((((((Kz.gr (Kz.refl _ _) p).gr q).gr cV).gr dC).ka cW (Qc ((.inr Qb):1=0∨c.heap.size≤f))).gr fA).md cX)
       have uz:=(bl.md cX (Qt bm))
       have uA:=(bn.md cX (Qt bo))
       have uB:=(ab.md cX (Qt ac))
       exact⟨rfl,⟨uu.2,uu.1,y,ie,ig,ih,ii,ij,ik,fx,fy,fz⟩,Qh,hm,uz,⟨(Qk (A:=(fun x=>c.heap.size≤x)) bm)⟩,uA,⟨(Qk (A:=(fun x=>c.heap.size≤x)) bo)⟩,uB,⟨(Qk (A:=(fun x=>c.heap.size≤x)) ac)⟩,p8,(by omega),⟨(Qc nG.o)⟩,⟨(Qc nH.o)⟩,⟨(Qc nI.o)⟩,⟨(Qk (A:=(fun x=>x≠y)) bm)⟩,⟨(Qk (A:=(fun x=>x≠y)) bo)⟩,⟨(Qk (A:=(fun x=>x≠y)) ac)⟩,K_499⟩
     refine Xo ?_
     have uC:=(bP.gr cV)
     refine qz [(1,f)] rfl (Yx Tryz.underlying54 Tryz.underlying5 rfl uC) ⟨fun _=>(Qc ((.inr Qb):1=0∨d.heap.size≤f)),trivial⟩ ?_
     rintro BT J2 ⟨lX,cY⟩
     have J3:=cY.size
     have BU:=lX.lth
     refine⟨Kz.ofKa cY,?_⟩
     obtain⟨NU,uD,hm⟩:=Qd hm
     refine qz [] rfl (eC Jh rfl (Ji uD)) ⟨fun _=>Qb,trivial⟩ ?_
     rintro _ J4 ⟨rfl,dD⟩
     have J5:=dD.size
     refine kG dD ?_
     have uE:=(lX.gr dD)
     obtain⟨uF,uG,hm⟩:=Qd hm
     refine qz [] rfl (eC Vg rfl (Vh uG uE)) ⟨fun _=>Qb,trivial⟩ ?_
     rintro _ J6 ⟨il,im,io,ip,iq,ir,fB,fC,fD,rfl,bp,bq,br,bs,ad,ae,nJ,nK,nL,fE⟩
     have J7:=fE.size
     have BV:=bp.lth
     have BW:=br.lth
     have BX:=ad.lth
     refine kG fE ?_
     have uH:=Gr.trans q cV
     have jy:=(((((Kp.refl ([]) d).gr uH).ka cY (Qc ((.inr Qb):1=0∨d.heap.size≤f))).gr dD).gr fE)
     refine dn 0 rfl rfl jy<|dn 0 rfl rfl jy<|dn 0 rfl rfl jy ?_
     have uI:=(((ib.ka cY (Qc (Qm (b:=y) ht))).gr dD).gr fE)
     refine qz [(1,y)] rfl (Qr Zl rfl rfl (Qo.cs_ones _ _ _ _ (Qe.oneB bp) (Qe.oneB br) (Qe.oneB ad)) uI rfl rfl) ⟨fun _=>Qb,trivial⟩ ?_
     rintro _ uJ ⟨p9,cZ⟩
     have J8:=cZ.size
     refine kM cZ ?_
     have uK:=(jy.md cZ)
     refine dn 0 rfl rfl uK<|Qi ?_
     have K_516:Kz [] c uJ:=((((((Kz.gr (Kz.refl _ _) p).gr uH).ka cY (Qc ((.inr Qb):1=0∨c.heap.size≤f))).gr dD).gr fE).md cZ)
     have uL:=(bp.md cZ (Qt bq))
     have uM:=(br.md cZ (Qt bs))
     have uN:=(ad.md cZ (Qt ae))
     exact⟨rfl,⟨uF.2,uF.1,y,il,im,io,ip,iq,ir,fB,fC,fD⟩,Qh,hm,uL,⟨(Qk (A:=(fun x=>c.heap.size≤x)) bq)⟩,uM,⟨(Qk (A:=(fun x=>c.heap.size≤x)) bs)⟩,uN,⟨(Qk (A:=(fun x=>c.heap.size≤x)) ae)⟩,p9,(by omega),⟨(Qc nJ.o)⟩,⟨(Qc nK.o)⟩,⟨(Qc nL.o)⟩,⟨(Qk (A:=(fun x=>x≠y)) bq)⟩,⟨(Qk (A:=(fun x=>x≠y)) bs)⟩,⟨(Qk (A:=(fun x=>x≠y)) ae)⟩,K_516⟩
   refine Zt<|qz [] rfl (Qz (cs:=Qo.cs (Qo.mk 0#8 0 (Qq.mk [] 0#64 [] k0 k0) 0#8 0#64 [] k0) (.slice none 0 0) (.slice none 0 0) (.slice none 0 0)) Km rfl) ⟨fun _=>Qb,trivial⟩ ?_
   rintro _ J9 ⟨k,rfl,yD,dX,c0⟩
   have Kn:=c0.size
   have BY:=dX.lt
   refine kG c0<|Zs ?_ ?_
   · refine Xo ?_
     obtain⟨KA,qa,hm⟩:=Qd hm
     refine qz [] rfl (eC Jh rfl (Ji qa)) ⟨fun _=>Qb,trivial⟩ ?_
     rintro _ KB ⟨rfl,fF⟩
     have KC:=fF.size
     refine kG fF<|qz [] rfl (Ko [97#8,98#8,99#8] Xx Gn rfl rfl (Ks rfl) rfl rfl rfl) ⟨fun _=>Qb,trivial⟩ ?_
     rintro B0 KD ⟨da,yE,lY,fG⟩
     have KE:=fG.size
     have B1:=lY.lth
     refine kG fG<|qz [(1,da)] rfl (Yx Tryz.underlying54 Tryz.underlying5 rfl lY) ⟨fun _=>(Qc ((.inr Qb):1=0∨d.heap.size≤da)),trivial⟩ ?_
     rintro B2 KF ⟨lZ,db⟩
     have KG:=db.size
     have B3:=lZ.lth
     refine⟨Kz.ofKa db,?_⟩
     obtain⟨o4,qc,hm⟩:=Qd hm
     refine qz [] rfl (eC Vg rfl (Vh qc lZ)) ⟨fun _=>Qb,trivial⟩ ?_
     rintro _ KH ⟨it,iu,iv,iw,ix,iy,fH,fI,fJ,rfl,bu,bw,bx,bz,af,ag,nM,nN,nO,fK⟩
     have KI:=fK.size
     have B4:=bu.lth
     have B5:=bx.lth
     have B6:=af.lth
     refine kG fK ?_
     have jz:=((((((Kp.refl ([]) d).gr c0).gr fF).gr fG).ka db (Qc ((.inr Qb):1=0∨d.heap.size≤da))).gr fK)
     refine dn 0 rfl rfl jz<|dn 0 rfl rfl jz<|dn 0 rfl rfl jz ?_
     have uO:=((((dX.gr fF).gr fG).ka db (Qc ((.inr Qb):1=0∨da≠k))).gr fK)
     refine qz [(1,k)] rfl (Qr Zl rfl rfl (Qo.cs_ones _ _ _ _ (Qe.oneB bu) (Qe.oneB bx) (Qe.oneB af)) uO rfl rfl) ⟨fun _=>Qb,trivial⟩ ?_
     rintro _ uP ⟨qf,dc⟩
     have KJ:=dc.size
     refine kM dc ?_
     have uQ:=(jz.md dc)
     refine dn 0 rfl rfl uQ<|Qi ?_
     have K_535:Kz [] c uP:=(((((((Kz.gr (Kz.refl _ _) p).gr c0).gr fF).gr fG).ka db (Qc ((.inr Qb):1=0∨c.heap.size≤da))).gr fK).md dc)
     have uR:=(bu.md dc (Qt bw))
     have uS:=(bx.md dc (Qt bz))
     have uT:=(af.md dc (Qt ag))
     exact⟨rfl,⟨o4.2,o4.1,k,it,iu,iv,iw,ix,iy,fH,fI,fJ⟩,Qh,hm,uR,⟨(Qk (A:=(fun x=>c.heap.size≤x)) bw)⟩,uS,⟨(Qk (A:=(fun x=>c.heap.size≤x)) bz)⟩,uT,⟨(Qk (A:=(fun x=>c.heap.size≤x)) ag)⟩,qf,(by omega),⟨(Qc nM.o)⟩,⟨(Qc nN.o)⟩,⟨(Qc nO.o)⟩,⟨(Qk (A:=(fun x=>x≠k)) bw)⟩,⟨(Qk (A:=(fun x=>x≠k)) bz)⟩,⟨(Qk (A:=(fun x=>x≠k)) ag)⟩,K_535⟩
   refine Zt<|qz [] rfl (Ko [97#8,98#8,99#8] Xx Gn rfl rfl (Ks rfl) rfl rfl rfl) ⟨fun _=>Qb,trivial⟩ ?_
   rintro B7 KK ⟨t,yF,iz,dd⟩
   have KL:=dd.size
   have B8:=iz.lth
   refine kG dd<|Zs ?_ ?_
   · refine Xo ?_
     obtain⟨KM,qi,hm⟩:=Qd hm
     refine qz [] rfl (eC Jh rfl (Ji qi)) ⟨fun _=>Qb,trivial⟩ ?_
     rintro _ KN ⟨rfl,dE⟩
     have KO:=dE.size
     refine kG dE ?_
     have uU:=(iz.gr dE)
     refine qz [(1,t)] rfl (Yx Tryz.underlying54 Tryz.underlying5 rfl uU) ⟨fun _=>(Qc ((.inr Qb):1=0∨d.heap.size≤t)),trivial⟩ ?_
     rintro B9 KP ⟨l0,de⟩
     have KQ:=de.size
     have Cp:=l0.lth
     refine⟨Kz.ofKa de,?_⟩
     obtain⟨o5,ql,hm⟩:=Qd hm
     refine qz [] rfl (eC Vg rfl (Vh ql l0)) ⟨fun _=>Qb,trivial⟩ ?_
     rintro _ KR ⟨iA,iB,iC,iD,iE,iG,fL,fM,fN,rfl,bA,bB,bC,bD,ah,ai,nP,nQ,nR,fO⟩
     have KS:=fO.size
     have Cv:=bA.lth
     have CA:=bC.lth
     have CB:=ah.lth
     refine kG fO ?_
     have jA:=((((((Kp.refl ([]) d).gr c0).gr dd).gr dE).ka de (Qc ((.inr Qb):1=0∨d.heap.size≤t))).gr fO)
     refine dn 0 rfl rfl jA<|dn 0 rfl rfl jA<|dn 0 rfl rfl jA ?_
     have uV:=((((dX.gr dd).gr dE).ka de (Qc ((.inr Qb):1=0∨t≠k))).gr fO)
     refine qz [(1,k)] rfl (Qr Zl rfl rfl (Qo.cs_ones _ _ _ _ (Qe.oneB bA) (Qe.oneB bC) (Qe.oneB ah)) uV rfl rfl) ⟨fun _=>Qb,trivial⟩ ?_
     rintro _ uW ⟨qo,df⟩
     have KT:=df.size
     refine kM df ?_
     have uX:=(jA.md df)
     refine dn 0 rfl rfl uX<|Qi ?_
     have K_553:Kz [] c uW:=(((((((Kz.gr (Kz.refl _ _) p).gr c0).gr dd).gr dE).ka de (Qc ((.inr Qb):1=0∨c.heap.size≤t))).gr fO).md df)
     have uY:=(bA.md df (Qt bB))
     have uZ:=(bC.md df (Qt bD))
     have u0:=(ah.md df (Qt ai))
     exact⟨rfl,⟨o5.2,o5.1,k,iA,iB,iC,iD,iE,iG,fL,fM,fN⟩,Qh,hm,uY,⟨(Qk (A:=(fun x=>c.heap.size≤x)) bB)⟩,uZ,⟨(Qk (A:=(fun x=>c.heap.size≤x)) bD)⟩,u0,⟨(Qk (A:=(fun x=>c.heap.size≤x)) ai)⟩,qo,(by omega),⟨(Qc nP.o)⟩,⟨(Qc nQ.o)⟩,⟨(Qc nR.o)⟩,⟨(Qk (A:=(fun x=>x≠k)) bB)⟩,⟨(Qk (A:=(fun x=>x≠k)) bD)⟩,⟨(Qk (A:=(fun x=>x≠k)) ai)⟩,K_553⟩
   refine Xo<|qz [(1,t)] rfl (Yx Tryz.underlying54 Tryz.underlying5 rfl iz) ⟨fun _=>(Qc ((.inr Qb):1=0∨d.heap.size≤t)),trivial⟩ ?_
   rintro CC KU ⟨l1,dg⟩
   have KV:=dg.size
   have CD:=l1.lth
   refine⟨Kz.ofKa dg,?_⟩
   obtain⟨KW,qA,hm⟩:=Qd hm
   refine qz [] rfl (eC Jh rfl (Ji qA)) ⟨fun _=>Qb,trivial⟩ ?_
   rintro _ KX ⟨rfl,dF⟩
   have KY:=dF.size
   refine kG dF ?_
   have u1:=(l1.gr dF)
   obtain⟨o6,qB,hm⟩:=Qd hm
   refine qz [] rfl (eC Vg rfl (Vh qB u1)) ⟨fun _=>Qb,trivial⟩ ?_
   rintro _ KZ ⟨iH,iI,iJ,iK,iL,iM,fP,fQ,fR,rfl,bE,bF,bG,bH,aj,ak,nS,nT,nU,fS⟩
   have K0:=fS.size
   have CE:=bE.lth
   have CF:=bG.lth
   have CG:=aj.lth
   refine kG fS ?_
   have u2:=Gr.trans c0 dd
   have jB:=(((((Kp.refl ([]) d).gr u2).ka dg (Qc ((.inr Qb):1=0∨d.heap.size≤t))).gr dF).gr fS)
   refine dn 0 rfl rfl jB<|dn 0 rfl rfl jB<|dn 0 rfl rfl jB ?_
   have u3:=((((dX.gr dd).ka dg (Qc ((.inr Qb):1=0∨t≠k))).gr dF).gr fS)
   refine qz [(1,k)] rfl (Qr Zl rfl rfl (Qo.cs_ones _ _ _ _ (Qe.oneB bE) (Qe.oneB bG) (Qe.oneB aj)) u3 rfl rfl) ⟨fun _=>Qb,trivial⟩ ?_
   rintro _ u4 ⟨qC,di⟩
   have K1:=di.size
   refine kM di ?_
   have u5:=(jB.md di)
   refine dn 0 rfl rfl u5<|Qi ?_
   have K_569:Kz [] c u4:=((((((Kz.gr (Kz.refl _ _) p).gr u2).ka dg (Qc ((.inr Qb):1=0∨c.heap.size≤t))).gr dF).gr fS).md di)
   have u6:=(bE.md di (Qt bF))
   have u7:=(bG.md di (Qt bH))
   have u8:=(aj.md di (Qt ak))
   exact⟨rfl,⟨o6.2,o6.1,k,iH,iI,iJ,iK,iL,iM,fP,fQ,fR⟩,Qh,hm,u6,⟨(Qk (A:=(fun x=>c.heap.size≤x)) bF)⟩,u7,⟨(Qk (A:=(fun x=>c.heap.size≤x)) bH)⟩,u8,⟨(Qk (A:=(fun x=>c.heap.size≤x)) ak)⟩,qC,(by omega),⟨(Qc nS.o)⟩,⟨(Qc nT.o)⟩,⟨(Qc nU.o)⟩,⟨(Qk (A:=(fun x=>x≠k)) bF)⟩,⟨(Qk (A:=(fun x=>x≠k)) bH)⟩,⟨(Qk (A:=(fun x=>x≠k)) ak)⟩,K_569⟩
 clear hm;rintro⟨gY,cg,bq19,vy21,zy21,gy21,vy22,zy22,gy22,vy23,zy23,gy23⟩ dj ⟨hm,ao,yG,ap,yH,aq,yI,dY,yJ,yK,yL,u9,va,vb,vc,u⟩
 have NV:=u.size
 have K2:=ao.lth
 have K3:=ap.lth
 have K4:=aq.lth
 have K5:=dY.lt
 unfold Qh1 at hm
 have CH:=(AA.kz u)
 refine qj (β:=Int × Xl × Nat × Value × Nat × Nat) ([6,14]++rg 101 7) (fun⟨jQ,iN,bq25,vy27,zy27,gy27⟩=>[(6,.int .i64 jQ),(14,.pointer (some ⟨bq25,0,none⟩))]) (fun⟨jQ,iN,bq25,vy27,zy27,gy27⟩ wr=>(Qh2 d2 bN gY cg jQ iN=some r)∧Qe wr zy27 gy27 120 18 vy27 (iN.Secret.Labels.map Zr.cs)∧Xk (zy27=0∨dj.heap.size≤gy27)∧Bx wr bq25 105 (Xl.cs iN vy27)∧dj.heap.size≤bq25∧Xk (zy27=0∨gy27≠bq25)∧Kz [] dj wr) ?_ ?_
 · refine dw [([])] [] (.fork [(0,10)] (.fork [(1,0)] (.fork [(2,0)] (.leaf [(3,0),(4,10),(5,10),(6,10),(7,0),(8,0),(9,10)]) (.leaf [(7,0),(3,0),(4,10),(5,10),(6,10),(8,0),(9,10)])) (.leaf [(7,0),(2,0),(3,0),(4,10),(5,10),(6,10),(8,0),(9,10)])) (.leaf [(7,0),(1,0),(2,0),(3,0),(4,10),(5,10),(6,10),(8,0),(9,10)])) ?_
   intro nV l2 K6
   refine Zt ?_
   have vd:=(((iU.kz ly).kz u).gr l2)
   refine dh 0 rfl rfl (fun w hS=>Qu Qy rfl (Bx.kp vd hS) rfl)<|Zs ?_ ?_
   · refine Zt ?_
     obtain⟨NW,ve,hm⟩:=Qd hm
     refine qz [] rfl (eC Yb rfl (Yc ve)) ⟨fun _=>Qb,trivial⟩ ?_
     rintro _ NX ⟨rfl,jR⟩
     have K7:=jR.size
     refine kG jR<|Zs ?_ ?_
     · refine Zt ?_
       obtain⟨NY,vf,hm⟩:=Qd hm
       refine qz [] rfl (eC Jh rfl (Ji vf)) ⟨fun _=>Qb,trivial⟩ ?_
       rintro _ NZ ⟨rfl,l3⟩
       have K8:=l3.size
       refine kG l3<|Zs ?_ ?_
       · refine Xo ?_
         obtain⟨vg,vh,hm⟩:=Qd hm
         refine qz [] rfl (eC Dc rfl (Dd vh)) ⟨fun _=>Qb,trivial⟩ ?_
         rintro _ N0 ⟨jS,jT,jU,rfl,dG,jV,nW⟩
         have K9:=nW.size
         have l4:=dG.lth
         refine kG nW ?_
         have jC:=((((Kp.refl ([]) nV).gr jR).gr l3).gr nW)
         refine dn 0 rfl rfl jC<|dn 0 rfl rfl jC<|dn 0 rfl rfl jC<|qz [] rfl (Qz (cs:=Xl.cs (Xl.mk (Xt.mk 0 [] (Qx.mk 0#64 0#64)) 0 (Jg.mk (Xw.mk false 0 k0) (Xw.mk false 0 k0))) (.slice none 0 0)) Vx rfl) ⟨fun _=>Qb,trivial⟩ ?_
         rintro _ N1 ⟨qD,rfl,CI,o7,l5⟩
         have Lb:=l5.size
         have CJ:=o7.lt
         refine kG l5 ?_
         have o8:=(dG.gr l5)
         refine qz [(1,qD)] rfl (Qr Ju rfl rfl (Xl.cs_ones _ _ (Qe.oneB o8)) o7 rfl rfl) ⟨fun _=>Qb,trivial⟩ ?_
         rintro _ CK ⟨vi,l6⟩
         have Le:=l6.size
         refine kM l6 ?_
         have vj:=((jC.gr l5).md l6)
         refine dn 0 rfl rfl vj<|Qi ?_
         have K_273:Kz [] dj CK:=((((((Kz.gr (Kz.refl _ _) l2).gr jR).gr l3).gr nW).gr l5).md l6)
         have vk:=(o8.md l6 (Qm l4))
         exact⟨rfl,⟨vg.2,vg.1,qD,jS,jT,jU⟩,Qh,hm,vk,⟨(Qk (A:=(fun x=>dj.heap.size≤x)) jV)⟩,vi,(by omega),⟨(Kq (A:=(fun x=>x≠qD)) l4)⟩,K_273⟩
       refine Xo<|qz [] rfl (Qz (cs:=Xl.cs (Xl.mk (Xt.mk 0 [] (Qx.mk 0#64 0#64)) 0 (Jg.mk (Xw.mk false 0 k0) (Xw.mk false 0 k0))) (.slice none 0 0)) Vx rfl) ⟨fun _=>Qb,trivial⟩ ?_
       rintro _ N2 ⟨qE,rfl,CL,o9,qF⟩
       have Lt:=qF.size
       have CM:=o9.lt
       refine kG qF ?_
       obtain⟨vl,vm,hm⟩:=Qd hm
       refine qz [] rfl (eC Dc rfl (Dd vm)) ⟨fun _=>Qb,trivial⟩ ?_
       rintro _ N3 ⟨jW,jX,jY,rfl,bR,bS,nX⟩
       have LA:=nX.size
       have CN:=bR.lth
       refine kG nX ?_
       have vn:=Gr.trans (Gr.trans (Gr.trans jR l3) qF) nX
       have jD:=((Kp.refl ([]) nV).gr vn)
       refine dn 0 rfl rfl jD<|dn 0 rfl rfl jD<|dn 0 rfl rfl jD ?_
       have vo:=(o9.gr nX)
       refine qz [(1,qE)] rfl (Qr Ju rfl rfl (Xl.cs_ones _ _ (Qe.oneB bR)) vo rfl rfl) ⟨fun _=>Qb,trivial⟩ ?_
       rintro _ CO ⟨vp,l7⟩
       have LB:=l7.size
       refine kM l7 ?_
       have vq:=(jD.md l7)
       refine dn 0 rfl rfl vq<|Qi ?_
       have K_283:Kz [] dj CO:=(((Kz.gr (Kz.refl _ _) l2).gr vn).md l7)
       have vr:=(bR.md l7 (Qt bS))
       exact⟨rfl,⟨vl.2,vl.1,qE,jW,jX,jY⟩,Qh,hm,vr,⟨(Qk (A:=(fun x=>dj.heap.size≤x)) bS)⟩,vp,(by omega),⟨(Qk (A:=(fun x=>x≠qE)) bS)⟩,K_283⟩
     refine Xo<|qz [] rfl (Qz (cs:=Xl.cs (Xl.mk (Xt.mk 0 [] (Qx.mk 0#64 0#64)) 0 (Jg.mk (Xw.mk false 0 k0) (Xw.mk false 0 k0))) (.slice none 0 0)) Vx rfl) ⟨fun _=>Qb,trivial⟩ ?_
     rintro _ N4 ⟨qG,rfl,CP,pa,qH⟩
     have LC:=qH.size
     have CQ:=pa.lt
     refine kG qH ?_
     obtain⟨N5,vs,hm⟩:=Qd hm
     refine qz [] rfl (eC Jh rfl (Ji vs)) ⟨fun _=>Qb,trivial⟩ ?_
     rintro _ N6 ⟨rfl,nY⟩
     have LD:=nY.size
     refine kG nY ?_
     obtain⟨vt,vu,hm⟩:=Qd hm
     refine qz [] rfl (eC Dc rfl (Dd vu)) ⟨fun _=>Qb,trivial⟩ ?_
     rintro _ N7 ⟨jZ,j0,j1,rfl,bT,bU,nZ⟩
     have LE:=nZ.size
     have CR:=bT.lth
     refine kG nZ ?_
     have vv:=Gr.trans (Gr.trans (Gr.trans jR qH) nY) nZ
     have jE:=((Kp.refl ([]) nV).gr vv)
     refine dn 0 rfl rfl jE<|dn 0 rfl rfl jE<|dn 0 rfl rfl jE ?_
     have vw:=((pa.gr nY).gr nZ)
     refine qz [(1,qG)] rfl (Qr Ju rfl rfl (Xl.cs_ones _ _ (Qe.oneB bT)) vw rfl rfl) ⟨fun _=>Qb,trivial⟩ ?_
     rintro _ CS ⟨vx,l8⟩
     have LF:=l8.size
     refine kM l8 ?_
     have vy:=(jE.md l8)
     refine dn 0 rfl rfl vy<|Qi ?_
     have K_294:Kz [] dj CS:=(((Kz.gr (Kz.refl _ _) l2).gr vv).md l8)
     have vz:=(bT.md l8 (Qt bU))
     exact⟨rfl,⟨vt.2,vt.1,qG,jZ,j0,j1⟩,Qh,hm,vz,⟨(Qk (A:=(fun x=>dj.heap.size≤x)) bU)⟩,vx,(by omega),⟨(Qk (A:=(fun x=>x≠qG)) bU)⟩,K_294⟩
   refine Xo<|qz [] rfl (Qz (cs:=Xl.cs (Xl.mk (Xt.mk 0 [] (Qx.mk 0#64 0#64)) 0 (Jg.mk (Xw.mk false 0 k0) (Xw.mk false 0 k0))) (.slice none 0 0)) Vx rfl) ⟨fun _=>Qb,trivial⟩ ?_
   rintro _ N8 ⟨qI,rfl,CT,pb,qJ⟩
   have LG:=qJ.size
   have CU:=pb.lt
   refine kG qJ ?_
   obtain⟨N9,vA,hm⟩:=Qd hm
   refine qz [] rfl (eC Yb rfl (Yc vA)) ⟨fun _=>Qb,trivial⟩ ?_
   rintro _ Of ⟨rfl,n0⟩
   have LH:=n0.size
   refine kG n0 ?_
   obtain⟨On,vB,hm⟩:=Qd hm
   refine qz [] rfl (eC Jh rfl (Ji vB)) ⟨fun _=>Qb,trivial⟩ ?_
   rintro _ Op ⟨rfl,n1⟩
   have LI:=n1.size
   refine kG n1 ?_
   obtain⟨vC,vD,hm⟩:=Qd hm
   refine qz [] rfl (eC Dc rfl (Dd vD)) ⟨fun _=>Qb,trivial⟩ ?_
   rintro _ LJ ⟨iO,iP,iQ,rfl,bI,bJ,jF⟩
   have LK:=jF.size
   have CW:=bI.lth
   refine kG jF ?_
   have vE:=Gr.trans (Gr.trans (Gr.trans qJ n0) n1) jF
   have jG:=((Kp.refl ([]) nV).gr vE)
   refine dn 0 rfl rfl jG<|dn 0 rfl rfl jG<|dn 0 rfl rfl jG ?_
   have CX:=Gr.trans (Gr.trans n0 n1) jF
   have vF:=(pb.gr CX)
   refine qz [(1,qI)] rfl (Qr Ju rfl rfl (Xl.cs_ones _ _ (Qe.oneB bI)) vF rfl rfl) ⟨fun _=>Qb,trivial⟩ ?_
   rintro _ vG ⟨qK,fT⟩
   have LL:=fT.size
   refine kM fT ?_
   have vH:=(jG.md fT)
   refine dn 0 rfl rfl vH<|Qi ?_
   have K_306:Kz [] dj vG:=(((Kz.gr (Kz.refl _ _) l2).gr vE).md fT)
   have vI:=(bI.md fT (Qt bJ))
   exact⟨rfl,⟨vC.2,vC.1,qI,iO,iP,iQ⟩,Qh,hm,vI,⟨(Qk (A:=(fun x=>dj.heap.size≤x)) bJ)⟩,qK,(by omega),⟨(Qk (A:=(fun x=>x≠qI)) bJ)⟩,K_306⟩
 clear hm;rintro⟨jQ,iN,bq25,vy27,zy27,gy27⟩ dk ⟨hm,bL,yM,jH,yN,yO,j⟩
 have Or:=j.size
 have LM:=bL.lth
 have LN:=jH.lt
 unfold Qh2 at hm
 have CY:=(CH.kz j)
 refine qj (β:=Int × Xl × Nat × Value × Nat × Nat) ([8,15]++rg 108 7) (fun⟨j2,fU,bq29,vy31,zy31,gy31⟩=>[(8,.int .i64 j2),(15,.pointer (some ⟨bq29,0,none⟩))]) (fun⟨j2,fU,bq29,vy31,zy31,gy31⟩ wr=>(Qh3 d2 bN gY cg jQ iN j2 fU=some r)∧Qe wr zy31 gy31 120 18 vy31 (fU.Secret.Labels.map Zr.cs)∧Xk (zy31=0∨dk.heap.size≤gy31)∧Bx wr bq29 105 (Xl.cs fU vy31)∧dk.heap.size≤bq29∧Xk (zy31=0∨gy31≠bq29)∧Kz [] dk wr) ?_ ?_
 · refine dw [([])] [] (.fork [(0,10)] (.fork [(1,0)] (.fork [(2,0)] (.leaf [(3,0),(4,10),(5,10),(6,10),(7,0),(8,0),(9,10)]) (.leaf [(7,0),(3,0),(4,10),(5,10),(6,10),(8,0),(9,10)])) (.leaf [(7,0),(2,0),(3,0),(4,10),(5,10),(6,10),(8,0),(9,10)])) (.leaf [(7,0),(1,0),(2,0),(3,0),(4,10),(5,10),(6,10),(8,0),(9,10)])) ?_
   intro n2 l9 LO
   refine Zt ?_
   have vJ:=((((iU.kz ly).kz u).kz j).gr l9)
   refine dh 0 rfl rfl (fun w hS=>Qu Qy rfl (Bx.kp vJ hS) rfl)<|Zs ?_ ?_
   · refine Zt ?_
     obtain⟨Os,vK,hm⟩:=Qd hm
     refine qz [] rfl (eC Yb rfl (Yc vK)) ⟨fun _=>Qb,trivial⟩ ?_
     rintro _ OA ⟨rfl,j3⟩
     have LP:=j3.size
     refine kG j3<|Zs ?_ ?_
     · refine Zt ?_
       obtain⟨OC,vL,hm⟩:=Qd hm
       refine qz [] rfl (eC Jh rfl (Ji vL)) ⟨fun _=>Qb,trivial⟩ ?_
       rintro _ OD ⟨rfl,ma⟩
       have LQ:=ma.size
       refine kG ma<|Zs ?_ ?_
       · refine Xo ?_
         obtain⟨vM,vN,hm⟩:=Qd hm
         refine qz [] rfl (eC Dc rfl (Dd vN)) ⟨fun _=>Qb,trivial⟩ ?_
         rintro _ OE ⟨j4,j5,j6,rfl,dH,j7,n3⟩
         have LR:=n3.size
         have mb:=dH.lth
         refine kG n3 ?_
         have jI:=((((Kp.refl ([]) n2).gr j3).gr ma).gr n3)
         refine dn 0 rfl rfl jI<|dn 0 rfl rfl jI<|dn 0 rfl rfl jI<|qz [] rfl (Qz (cs:=Xl.cs (Xl.mk (Xt.mk 0 [] (Qx.mk 0#64 0#64)) 0 (Jg.mk (Xw.mk false 0 k0) (Xw.mk false 0 k0))) (.slice none 0 0)) Vx rfl) ⟨fun _=>Qb,trivial⟩ ?_
         rintro _ OF ⟨qL,rfl,CZ,pc,mc⟩
         have LS:=mc.size
         have C0:=pc.lt
         refine kG mc ?_
         have pd:=(dH.gr mc)
         refine qz [(1,qL)] rfl (Qr Ju rfl rfl (Xl.cs_ones _ _ (Qe.oneB pd)) pc rfl rfl) ⟨fun _=>Qb,trivial⟩ ?_
         rintro _ C1 ⟨vO,me⟩
         have LT:=me.size
         refine kM me ?_
         have vP:=((jI.gr mc).md me)
         refine dn 0 rfl rfl vP<|Qi ?_
         have K_227:Kz [] dk C1:=((((((Kz.gr (Kz.refl _ _) l9).gr j3).gr ma).gr n3).gr mc).md me)
         have vQ:=(pd.md me (Qm mb))
         exact⟨rfl,⟨vM.2,vM.1,qL,j4,j5,j6⟩,Qh,hm,vQ,⟨(Qk (A:=(fun x=>dk.heap.size≤x)) j7)⟩,vO,(by omega),⟨(Kq (A:=(fun x=>x≠qL)) mb)⟩,K_227⟩
       refine Xo<|qz [] rfl (Qz (cs:=Xl.cs (Xl.mk (Xt.mk 0 [] (Qx.mk 0#64 0#64)) 0 (Jg.mk (Xw.mk false 0 k0) (Xw.mk false 0 k0))) (.slice none 0 0)) Vx rfl) ⟨fun _=>Qb,trivial⟩ ?_
       rintro _ OG ⟨qM,rfl,C2,pe,qN⟩
       have LU:=qN.size
       have C3:=pe.lt
       refine kG qN ?_
       obtain⟨vR,vS,hm⟩:=Qd hm
       refine qz [] rfl (eC Dc rfl (Dd vS)) ⟨fun _=>Qb,trivial⟩ ?_
       rintro _ OH ⟨j8,j9,kc,rfl,bV,bW,n4⟩
       have LV:=n4.size
       have C4:=bV.lth
       refine kG n4 ?_
       have vT:=Gr.trans (Gr.trans (Gr.trans j3 ma) qN) n4
       have jJ:=((Kp.refl ([]) n2).gr vT)
       refine dn 0 rfl rfl jJ<|dn 0 rfl rfl jJ<|dn 0 rfl rfl jJ ?_
       have vU:=(pe.gr n4)
       refine qz [(1,qM)] rfl (Qr Ju rfl rfl (Xl.cs_ones _ _ (Qe.oneB bV)) vU rfl rfl) ⟨fun _=>Qb,trivial⟩ ?_
       rintro _ C5 ⟨vV,mf⟩
       have LW:=mf.size
       refine kM mf ?_
       have vW:=(jJ.md mf)
       refine dn 0 rfl rfl vW<|Qi ?_
       have K_237:Kz [] dk C5:=(((Kz.gr (Kz.refl _ _) l9).gr vT).md mf)
       have vX:=(bV.md mf (Qt bW))
       exact⟨rfl,⟨vR.2,vR.1,qM,j8,j9,kc⟩,Qh,hm,vX,⟨(Qk (A:=(fun x=>dk.heap.size≤x)) bW)⟩,vV,(by omega),⟨(Qk (A:=(fun x=>x≠qM)) bW)⟩,K_237⟩
     refine Xo<|qz [] rfl (Qz (cs:=Xl.cs (Xl.mk (Xt.mk 0 [] (Qx.mk 0#64 0#64)) 0 (Jg.mk (Xw.mk false 0 k0) (Xw.mk false 0 k0))) (.slice none 0 0)) Vx rfl) ⟨fun _=>Qb,trivial⟩ ?_
     rintro _ OI ⟨qO,rfl,C6,pf,qP⟩
     have LX:=qP.size
     have C7:=pf.lt
     refine kG qP ?_
     obtain⟨OJ,vY,hm⟩:=Qd hm
     refine qz [] rfl (eC Jh rfl (Ji vY)) ⟨fun _=>Qb,trivial⟩ ?_
     rintro _ OK ⟨rfl,n5⟩
     have LY:=n5.size
     refine kG n5 ?_
     obtain⟨vZ,v0,hm⟩:=Qd hm
     refine qz [] rfl (eC Dc rfl (Dd v0)) ⟨fun _=>Qb,trivial⟩ ?_
     rintro _ OL ⟨kd,ke,kf,rfl,bX,bY,n6⟩
     have LZ:=n6.size
     have C8:=bX.lth
     refine kG n6 ?_
     have v1:=Gr.trans (Gr.trans (Gr.trans j3 qP) n5) n6
     have jK:=((Kp.refl ([]) n2).gr v1)
     refine dn 0 rfl rfl jK<|dn 0 rfl rfl jK<|dn 0 rfl rfl jK ?_
     have v2:=((pf.gr n5).gr n6)
     refine qz [(1,qO)] rfl (Qr Ju rfl rfl (Xl.cs_ones _ _ (Qe.oneB bX)) v2 rfl rfl) ⟨fun _=>Qb,trivial⟩ ?_
     rintro _ C9 ⟨v3,mg⟩
     have L0:=mg.size
     refine kM mg ?_
     have v4:=(jK.md mg)
     refine dn 0 rfl rfl v4<|Qi ?_
     have K_248:Kz [] dk C9:=(((Kz.gr (Kz.refl _ _) l9).gr v1).md mg)
     have v5:=(bX.md mg (Qt bY))
     exact⟨rfl,⟨vZ.2,vZ.1,qO,kd,ke,kf⟩,Qh,hm,v5,⟨(Qk (A:=(fun x=>dk.heap.size≤x)) bY)⟩,v3,(by omega),⟨(Qk (A:=(fun x=>x≠qO)) bY)⟩,K_248⟩
   refine Xo<|qz [] rfl (Qz (cs:=Xl.cs (Xl.mk (Xt.mk 0 [] (Qx.mk 0#64 0#64)) 0 (Jg.mk (Xw.mk false 0 k0) (Xw.mk false 0 k0))) (.slice none 0 0)) Vx rfl) ⟨fun _=>Qb,trivial⟩ ?_
   rintro _ OM ⟨qQ,rfl,Do,pg,qR⟩
   have L1:=qR.size
   have Ds:=pg.lt
   refine kG qR ?_
   obtain⟨ON,v6,hm⟩:=Qd hm
   refine qz [] rfl (eC Yb rfl (Yc v6)) ⟨fun _=>Qb,trivial⟩ ?_
   rintro _ OO ⟨rfl,n7⟩
   have L2:=n7.size
   refine kG n7 ?_
   obtain⟨OP,v7,hm⟩:=Qd hm
   refine qz [] rfl (eC Jh rfl (Ji v7)) ⟨fun _=>Qb,trivial⟩ ?_
   rintro _ OQ ⟨rfl,n8⟩
   have L3:=n8.size
   refine kG n8 ?_
   obtain⟨v8,v9,hm⟩:=Qd hm
   refine qz [] rfl (eC Dc rfl (Dd v9)) ⟨fun _=>Qb,trivial⟩ ?_
   rintro _ OR ⟨kg,kh,ki,rfl,bZ,b0,n9⟩
   have L4:=n9.size
   have DA:=bZ.lth
   refine kG n9 ?_
   have wa:=Gr.trans (Gr.trans (Gr.trans qR n7) n8) n9
   have jL:=((Kp.refl ([]) n2).gr wa)
   refine dn 0 rfl rfl jL<|dn 0 rfl rfl jL<|dn 0 rfl rfl jL ?_
   have DB:=Gr.trans (Gr.trans n7 n8) n9
   have wb:=(pg.gr DB)
   refine qz [(1,qQ)] rfl (Qr Ju rfl rfl (Xl.cs_ones _ _ (Qe.oneB bZ)) wb rfl rfl) ⟨fun _=>Qb,trivial⟩ ?_
   rintro _ DC ⟨wc,mh⟩
   have L5:=mh.size
   refine kM mh ?_
   have we:=(jL.md mh)
   refine dn 0 rfl rfl we<|Qi ?_
   have K_260:Kz [] dk DC:=(((Kz.gr (Kz.refl _ _) l9).gr wa).md mh)
   have wf:=(bZ.md mh (Qt b0))
   exact⟨rfl,⟨v8.2,v8.1,qQ,kg,kh,ki⟩,Qh,hm,wf,⟨(Qk (A:=(fun x=>dk.heap.size≤x)) b0)⟩,wc,(by omega),⟨(Qk (A:=(fun x=>x≠qQ)) b0)⟩,K_260⟩
 clear hm;rintro⟨j2,fU,bq29,vy31,zy31,gy31⟩ DD ⟨hm,jM,yP,jN,yQ,yR,h⟩
 have OS:=h.size
 have L6:=jM.lth
 have L7:=jN.lt
 unfold Qh3 at hm
 refine Qj ?_
 have wg:=(CY.kz h)
 refine qj (β:=Bool) (rg 115 14) (fun oa=>[(128,.bool oa)]) (fun oa wr=>(Uj bN cg iN fU oa=some r)∧Kz [] DD wr) ?_ ?_
 · refine qg 14 rfl<|qm rfl<|qv rfl (Zp (a:=d2) (b:=0) rfl rfl)<|Zm hm rfl (Qw rfl) (fun c7 hm=>?_) (fun c7 hm=>?_)
   · refine qn 7 rfl ?_
     refine qn 4 rfl<|Qi ?_
     exact⟨rfl,true,Qh,hm,Xi⟩
   refine qm rfl<|qv rfl (Zp (a:=gY) (b:=0) rfl rfl)<|qm rfl<|Zm hm rfl (Qw rfl) (fun c8 hm=>?_) (fun c8 hm=>?_)
   · refine qn 7 rfl ?_
     refine Qi ?_
     exact⟨rfl,true,Qh,hm,Xi⟩
   refine qm rfl<|qv rfl (Zp (a:=jQ) (b:=0) rfl rfl)<|qm rfl<|Zm hm rfl (Qw rfl) (fun c9 hm=>?_) (fun c9 hm=>?_)
   · refine qn 3 rfl<|Qi ?_
     exact⟨rfl,true,Qh,hm,Xi⟩
   refine qm rfl<|qv rfl (Zp (a:=j2) (b:=0) rfl rfl)<|qm rfl<|Qi ?_
   exact⟨rfl,(decide (j2≠0)),Qh,hm,Xi⟩
 clear hm;rintro oa dl ⟨hm,g⟩
 have OT:=g.size
 unfold Uj at hm
 refine Zw hm rfl (fun c2 hm=>?_) (fun c2 hm=>?_)
 · refine qs 1 rfl<|qm rfl<|qb ?_
   have DE:=(wg.kz g)
   cases hm
   exact⟨_,_,rfl,Xj rfl (Qn rfl),rfl,DE⟩
 refine qu ?_
 have DF:=(wg.kz g)
 refine qj (β:=Int × Xl × Nat × Value × Nat × Nat) ([2,16,17]++rg 129 9) (fun⟨kj,mj,bq34,vy36,zy36,gy36⟩=>[(2,.int .i64 kj),(16,.pointer (some ⟨bq34,0,none⟩))]) (fun⟨kj,mj,bq34,vy36,zy36,gy36⟩ wr=>(Qh4 bN cg fU kj mj=some r)∧Qe wr zy36 gy36 120 18 vy36 (mj.Secret.Labels.map Zr.cs)∧Xk (zy36=0∨dl.heap.size≤gy36)∧Bx wr bq34 105 (Xl.cs mj vy36)∧dl.heap.size≤bq34∧Xk (zy36=0∨gy36≠bq34)∧Kz [] dl wr) ?_ ?_
 · refine dw [([])] [] (.fork [(2,10),(3,10)] (.fork [(0,0)] (.fork [(1,0)] (.leaf [(4,0),(5,10),(6,10),(7,10),(8,10),(9,0),(10,0),(11,10),(12,10)]) (.leaf [(9,0),(4,0),(5,10),(6,10),(7,10),(8,10),(10,0),(11,10),(12,10)])) (.leaf [(9,0),(1,0),(4,0),(5,10),(6,10),(7,10),(8,10),(10,0),(11,10),(12,10)])) (.leaf [(9,0),(0,0),(1,0),(4,0),(5,10),(6,10),(7,10),(8,10),(10,0),(11,10),(12,10)])) ?_
   intro ob dp L8
   refine Zt ?_
   have wh:=(((jH.kz h).kz g).gr dp)
   refine dh 0 rfl rfl (fun w hS=>Qu Ju rfl (Bx.kp wh hS) rfl) ?_
   have wi:=(((((dV.kz u).kz j).kz h).kz g).gr dp)
   refine dh 0 rfl rfl (fun w hS=>Qu Zl rfl (Bx.kp wi hS) rfl)<|Zs ?_ ?_
   · refine Zt ?_
     obtain⟨OU,wj,hm⟩:=Qd hm
     refine qz [] rfl (eC Yb rfl (Yc wj)) ⟨fun _=>Qb,trivial⟩ ?_
     rintro _ OV ⟨rfl,dZ⟩
     have L9:=dZ.size
     refine kG dZ<|Zs ?_ ?_
     · refine Zt ?_
       obtain⟨OW,wk,hm⟩:=Qd hm
       refine qz [] rfl (eC Jh rfl (Ji wk)) ⟨fun _=>Qb,trivial⟩ ?_
       rintro _ OX ⟨rfl,iR⟩
       have Mb:=iR.size
       refine kG iR<|Zs ?_ ?_
       · refine Xo ?_
         have oc:=Gr.trans (Gr.trans dp dZ) iR
         have wl:=(((bL.kz h).kz g).gr oc)
         have wm:=(((((al.kz u).kz j).kz h).kz g).gr oc)
         have wn:=(((((am.kz u).kz j).kz h).kz g).gr oc)
         have wo:=(((((an.kz u).kz j).kz h).kz g).gr oc)
         obtain⟨wq,wt,hm⟩:=Qd hm
         refine qz [] rfl (eC Wv rfl (Ww wt (Qe.rd wl) (Qe.rd wm) (Qe.rd wn) (Qe.rd wo))) ⟨fun _=>Qb,trivial⟩ ?_
         rintro _ OY ⟨kk,kl,km,qY,qZ,q0,rfl,dI,ko,kq,q1,DG,oe⟩
         have MA:=oe.size
         have ml:=dI.lth
         have DH:=kq.lth
         refine kG oe ?_
         have fV:=((((Kp.refl ([]) ob).gr dZ).gr iR).gr oe)
         refine dn 0 rfl rfl fV<|dn 0 rfl rfl fV<|dn 0 rfl rfl fV<|dn 0 rfl rfl fV<|qz [] rfl (Qz (cs:=Xl.cs (Xl.mk (Xt.mk 0 [] (Qx.mk 0#64 0#64)) 0 (Jg.mk (Xw.mk false 0 k0) (Xw.mk false 0 k0))) (.slice none 0 0)) Vx rfl) ⟨fun _=>Qb,trivial⟩ ?_
         rintro _ OZ ⟨qS,rfl,DI,ph,mm⟩
         have MB:=mm.size
         have DJ:=ph.lt
         refine kG mm ?_
         have pi:=(dI.gr mm)
         refine qz [(1,qS)] rfl (Qr Ju rfl rfl (Xl.cs_ones _ _ (Qe.oneB pi)) ph rfl rfl) ⟨fun _=>Qb,trivial⟩ ?_
         rintro _ DK ⟨wu,mn⟩
         have MC:=mn.size
         refine kM mn ?_
         have pj:=((fV.gr mm).md mn)
         refine dn 0 rfl rfl pj<|dn 0 rfl rfl pj<|Qi ?_
         have K_162:Kz [] dl DK:=((((((Kz.gr (Kz.refl _ _) dp).gr dZ).gr iR).gr oe).gr mm).md mn)
         have ww:=(pi.md mn (Qm ml))
         exact⟨rfl,⟨wq.2.2,wq.1,qS,kk,kl,km⟩,Qh,hm,ww,⟨(Qk (A:=(fun x=>dl.heap.size≤x)) ko)⟩,wu,(by omega),⟨(Kq (A:=(fun x=>x≠qS)) ml)⟩,K_162⟩
       refine Xo<|qz [] rfl (Qz (cs:=Xl.cs (Xl.mk (Xt.mk 0 [] (Qx.mk 0#64 0#64)) 0 (Jg.mk (Xw.mk false 0 k0) (Xw.mk false 0 k0))) (.slice none 0 0)) Vx rfl) ⟨fun _=>Qb,trivial⟩ ?_
       rintro _ O0 ⟨qT,rfl,DL,pk,og⟩
       have MD:=og.size
       have DM:=pk.lt
       refine kG og ?_
       have oh:=Gr.trans (Gr.trans (Gr.trans dp dZ) iR) og
       have wx:=(((bL.kz h).kz g).gr oh)
       have wy:=(((((al.kz u).kz j).kz h).kz g).gr oh)
       have wz:=(((((am.kz u).kz j).kz h).kz g).gr oh)
       have wA:=(((((an.kz u).kz j).kz h).kz g).gr oh)
       obtain⟨wB,wC,hm⟩:=Qd hm
       refine qz [] rfl (eC Wv rfl (Ww wC (Qe.rd wx) (Qe.rd wy) (Qe.rd wz) (Qe.rd wA))) ⟨fun _=>Qb,trivial⟩ ?_
       rintro _ O1 ⟨kr,kt,ku,q2,q3,q4,rfl,b1,b2,kw,q5,DN,oi⟩
       have ME:=oi.size
       have DO:=b1.lth
       have DP:=kw.lth
       refine kG oi ?_
       have wD:=Gr.trans (Gr.trans (Gr.trans dZ iR) og) oi
       have fW:=((Kp.refl ([]) ob).gr wD)
       refine dn 0 rfl rfl fW<|dn 0 rfl rfl fW<|dn 0 rfl rfl fW<|dn 0 rfl rfl fW ?_
       have wE:=(pk.gr oi)
       refine qz [(1,qT)] rfl (Qr Ju rfl rfl (Xl.cs_ones _ _ (Qe.oneB b1)) wE rfl rfl) ⟨fun _=>Qb,trivial⟩ ?_
       rintro _ DQ ⟨wF,mo⟩
       have MF:=mo.size
       refine kM mo ?_
       have pl:=(fW.md mo)
       refine dn 0 rfl rfl pl<|dn 0 rfl rfl pl<|Qi ?_
       have K_177:Kz [] dl DQ:=(((Kz.gr (Kz.refl _ _) dp).gr wD).md mo)
       have wG:=(b1.md mo (Qt b2))
       exact⟨rfl,⟨wB.2.2,wB.1,qT,kr,kt,ku⟩,Qh,hm,wG,⟨(Qk (A:=(fun x=>dl.heap.size≤x)) b2)⟩,wF,(by omega),⟨(Qk (A:=(fun x=>x≠qT)) b2)⟩,K_177⟩
     refine Xo<|qz [] rfl (Qz (cs:=Xl.cs (Xl.mk (Xt.mk 0 [] (Qx.mk 0#64 0#64)) 0 (Jg.mk (Xw.mk false 0 k0) (Xw.mk false 0 k0))) (.slice none 0 0)) Vx rfl) ⟨fun _=>Qb,trivial⟩ ?_
     rintro _ O2 ⟨qU,rfl,DR,pm,oj⟩
     have MG:=oj.size
     have DS:=pm.lt
     refine kG oj ?_
     obtain⟨O3,wH,hm⟩:=Qd hm
     refine qz [] rfl (eC Jh rfl (Ji wH)) ⟨fun _=>Qb,trivial⟩ ?_
     rintro _ O4 ⟨rfl,mp⟩
     have MH:=mp.size
     refine kG mp ?_
     have ok:=Gr.trans (Gr.trans (Gr.trans dp dZ) oj) mp
     have wI:=(((bL.kz h).kz g).gr ok)
     have wJ:=(((((al.kz u).kz j).kz h).kz g).gr ok)
     have wK:=(((((am.kz u).kz j).kz h).kz g).gr ok)
     have wL:=(((((an.kz u).kz j).kz h).kz g).gr ok)
     obtain⟨wM,wN,hm⟩:=Qd hm
     refine qz [] rfl (eC Wv rfl (Ww wN (Qe.rd wI) (Qe.rd wJ) (Qe.rd wK) (Qe.rd wL))) ⟨fun _=>Qb,trivial⟩ ?_
     rintro _ O5 ⟨kx,ky,kA,q6,q7,q8,rfl,b3,b4,kB,q9,DT,ol⟩
     have MI:=ol.size
     have DU:=b3.lth
     have DV:=kB.lth
     refine kG ol ?_
     have wO:=Gr.trans (Gr.trans (Gr.trans dZ oj) mp) ol
     have fX:=((Kp.refl ([]) ob).gr wO)
     refine dn 0 rfl rfl fX<|dn 0 rfl rfl fX<|dn 0 rfl rfl fX<|dn 0 rfl rfl fX ?_
     have wP:=((pm.gr mp).gr ol)
     refine qz [(1,qU)] rfl (Qr Ju rfl rfl (Xl.cs_ones _ _ (Qe.oneB b3)) wP rfl rfl) ⟨fun _=>Qb,trivial⟩ ?_
     rintro _ DW ⟨wQ,mq⟩
     have MJ:=mq.size
     refine kM mq ?_
     have pn:=(fX.md mq)
     refine dn 0 rfl rfl pn<|dn 0 rfl rfl pn<|Qi ?_
     have K_193:Kz [] dl DW:=(((Kz.gr (Kz.refl _ _) dp).gr wO).md mq)
     have wR:=(b3.md mq (Qt b4))
     exact⟨rfl,⟨wM.2.2,wM.1,qU,kx,ky,kA⟩,Qh,hm,wR,⟨(Qk (A:=(fun x=>dl.heap.size≤x)) b4)⟩,wQ,(by omega),⟨(Qk (A:=(fun x=>x≠qU)) b4)⟩,K_193⟩
   refine Xo<|qz [] rfl (Qz (cs:=Xl.cs (Xl.mk (Xt.mk 0 [] (Qx.mk 0#64 0#64)) 0 (Jg.mk (Xw.mk false 0 k0) (Xw.mk false 0 k0))) (.slice none 0 0)) Vx rfl) ⟨fun _=>Qb,trivial⟩ ?_
   rintro _ O6 ⟨qV,rfl,DX,po,om⟩
   have MK:=om.size
   have DY:=po.lt
   refine kG om ?_
   obtain⟨O7,wS,hm⟩:=Qd hm
   refine qz [] rfl (eC Yb rfl (Yc wS)) ⟨fun _=>Qb,trivial⟩ ?_
   rintro _ O8 ⟨rfl,mr⟩
   have ML:=mr.size
   refine kG mr ?_
   obtain⟨O9,wT,hm⟩:=Qd hm
   refine qz [] rfl (eC Jh rfl (Ji wT)) ⟨fun _=>Qb,trivial⟩ ?_
   rintro _ Pa ⟨rfl,ms⟩
   have MM:=ms.size
   refine kG ms ?_
   have oo:=Gr.trans (Gr.trans (Gr.trans dp om) mr) ms
   have wU:=(((bL.kz h).kz g).gr oo)
   have wV:=(((((al.kz u).kz j).kz h).kz g).gr oo)
   have wW:=(((((am.kz u).kz j).kz h).kz g).gr oo)
   have wX:=(((((an.kz u).kz j).kz h).kz g).gr oo)
   obtain⟨wY,wZ,hm⟩:=Qd hm
   refine qz [] rfl (eC Wv rfl (Ww wZ (Qe.rd wU) (Qe.rd wV) (Qe.rd wW) (Qe.rd wX))) ⟨fun _=>Qb,trivial⟩ ?_
   rintro _ Pi ⟨kC,kD,kE,ra,rb,rc,rfl,b5,b6,kF,re,DZ,op⟩
   have MN:=op.size
   have D0:=b5.lth
   have D1:=kF.lth
   refine kG op ?_
   have w0:=Gr.trans (Gr.trans (Gr.trans om mr) ms) op
   have fY:=((Kp.refl ([]) ob).gr w0)
   refine dn 0 rfl rfl fY<|dn 0 rfl rfl fY<|dn 0 rfl rfl fY<|dn 0 rfl rfl fY ?_
   have D2:=Gr.trans (Gr.trans mr ms) op
   have xa:=(po.gr D2)
   refine qz [(1,qV)] rfl (Qr Ju rfl rfl (Xl.cs_ones _ _ (Qe.oneB b5)) xa rfl rfl) ⟨fun _=>Qb,trivial⟩ ?_
   rintro _ D3 ⟨xb,mt⟩
   have MO:=mt.size
   refine kM mt ?_
   have pp:=(fY.md mt)
   refine dn 0 rfl rfl pp<|dn 0 rfl rfl pp<|Qi ?_
   have K_210:Kz [] dl D3:=(((Kz.gr (Kz.refl _ _) dp).gr w0).md mt)
   have xc:=(b5.md mt (Qt b6))
   exact⟨rfl,⟨wY.2.2,wY.1,qV,kC,kD,kE⟩,Qh,hm,xc,⟨(Qk (A:=(fun x=>dl.heap.size≤x)) b6)⟩,xb,(by omega),⟨(Qk (A:=(fun x=>x≠qV)) b6)⟩,K_210⟩
 clear hm;rintro⟨kj,mj,bq34,vy36,zy36,gy36⟩ dq ⟨hm,bM,yS,jO,yT,yU,n⟩
 have Pl:=n.size
 have MP:=bM.lth
 have MQ:=jO.lt
 unfold Qh4 at hm
 have mu:=(DF.kz n)
 refine qj (β:=Int × List (BitVec 8) × Value × Nat × Nat) ([4,18,19]++rg 138 9) (fun⟨mv,kH,vy39,zy39,gy39⟩=>[(4,.int .i64 mv),(19,vy39)]) (fun⟨mv,kH,vy39,zy39,gy39⟩ wr=>(Qh5 bN cg fU kj mv kH=some r)∧Qe wr zy39 gy39 5 1 vy39 (kH.map Xx)∧Xk (zy39=0∨dq.heap.size≤gy39)∧Kz [] dq wr) ?_ ?_
 · refine dw [([])] [] (.fork [(2,10),(3,10)] (.fork [(0,0)] (.fork [(1,0)] (.leaf [(4,0),(5,10),(6,10),(7,10),(8,10),(9,0),(10,0),(11,10),(12,10)]) (.leaf [(9,0),(4,0),(5,10),(6,10),(7,10),(8,10),(10,0),(11,10),(12,10)])) (.leaf [(9,0),(1,0),(4,0),(5,10),(6,10),(7,10),(8,10),(10,0),(11,10),(12,10)])) (.leaf [(9,0),(0,0),(1,0),(4,0),(5,10),(6,10),(7,10),(8,10),(10,0),(11,10),(12,10)])) ?_
   intro oq dr MR
   refine Zt ?_
   have D4:=(jO.gr dr)
   refine dh 0 rfl rfl (fun w hS=>Qu Ju rfl (Bx.kp D4 hS) rfl) ?_
   have D5:=(((((dY.kz j).kz h).kz g).kz n).gr dr)
   refine dh 0 rfl rfl (fun w hS=>Qu Zl rfl (Bx.kp D5 hS) rfl)<|Zs ?_ ?_
   · refine Zt ?_
     obtain⟨PA,xd,hm⟩:=Qd hm
     refine qz [] rfl (eC Yb rfl (Yc xd)) ⟨fun _=>Qb,trivial⟩ ?_
     rintro _ PB ⟨rfl,d0⟩
     have PC:=d0.size
     refine kG d0<|Zs ?_ ?_
     · refine Zt ?_
       obtain⟨PD,xe,hm⟩:=Qd hm
       refine qz [] rfl (eC Jh rfl (Ji xe)) ⟨fun _=>Qb,trivial⟩ ?_
       rintro _ PE ⟨rfl,iS⟩
       have PF:=iS.size
       refine kG iS<|Zs ?_ ?_
       · refine Xo ?_
         have os:=Gr.trans (Gr.trans dr d0) iS
         have D6:=(bM.gr os)
         have D7:=(((((ao.kz j).kz h).kz g).kz n).gr os)
         have D8:=(((((ap.kz j).kz h).kz g).kz n).gr os)
         have D9:=(((((aq.kz j).kz h).kz g).kz n).gr os)
         obtain⟨xf,xg,hm⟩:=Qd hm
         refine qz [] rfl (eC Wv rfl (Ww xg (Qe.rd D6) (Qe.rd D7) (Qe.rd D8) (Qe.rd D9))) ⟨fun _=>Qb,trivial⟩ ?_
         rintro _ PG ⟨rf,rh,ri,kI,kJ,kK,rfl,dJ,rj,dK,kL,Eq,ot⟩
         have PH:=ot.size
         have MS:=dJ.lth
         have xh:=dK.lth
         refine kG ot ?_
         have mw:=((((Kp.refl ([]) oq).gr d0).gr iS).gr ot)
         refine dn 0 rfl rfl mw<|dn 0 rfl rfl mw<|dn 0 rfl rfl mw<|dn 0 rfl rfl mw<|qz [] rfl (Qz (cs:=Xl.cs (Xl.mk (Xt.mk 0 [] (Qx.mk 0#64 0#64)) 0 (Jg.mk (Xw.mk false 0 k0) (Xw.mk false 0 k0))) (.slice none 0 0)) Vx rfl) ⟨fun _=>Qb,trivial⟩ ?_
         rintro _ PI ⟨Ex,rfl,EA,pq,kN⟩
         have PJ:=kN.size
         have MT:=pq.lt
         refine kG kN ?_
         have EB:=(dJ.gr kN)
         refine qz [(1,Ex)] rfl (Qr Ju rfl rfl (Xl.cs_ones _ _ (Qe.oneB EB)) pq rfl rfl) ⟨fun _=>Qb,trivial⟩ ?_
         rintro _ EC ⟨MU,mx⟩
         have PK:=mx.size
         refine kM mx ?_
         have xi:=((mw.gr kN).md mx)
         refine dn 0 rfl rfl xi<|dn 0 rfl rfl xi<|Qi ?_
         have K_95:Kz [] dq EC:=((((((Kz.gr (Kz.refl _ _) dr).gr d0).gr iS).gr ot).gr kN).md mx)
         have ED:=((dK.gr kN).md mx (Qm xh))
         exact⟨rfl,⟨xf.2.2,xf.2.1,kI,kJ,kK⟩,Qh,hm,ED,⟨(Qk (A:=(fun x=>dq.heap.size≤x)) kL)⟩,K_95⟩
       refine Xo<|qz [] rfl (Qz (cs:=Xl.cs (Xl.mk (Xt.mk 0 [] (Qx.mk 0#64 0#64)) 0 (Jg.mk (Xw.mk false 0 k0) (Xw.mk false 0 k0))) (.slice none 0 0)) Vx rfl) ⟨fun _=>Qb,trivial⟩ ?_
       rintro _ PL ⟨EE,rfl,EF,pr,ou⟩
       have PM:=ou.size
       have MV:=pr.lt
       refine kG ou ?_
       have ov:=Gr.trans (Gr.trans (Gr.trans dr d0) iS) ou
       have EG:=(bM.gr ov)
       have xj:=(((((ao.kz j).kz h).kz g).kz n).gr ov)
       have xk:=(((((ap.kz j).kz h).kz g).kz n).gr ov)
       have xl:=(((((aq.kz j).kz h).kz g).kz n).gr ov)
       obtain⟨xm,xn,hm⟩:=Qd hm
       refine qz [] rfl (eC Wv rfl (Ww xn (Qe.rd EG) (Qe.rd xj) (Qe.rd xk) (Qe.rd xl))) ⟨fun _=>Qb,trivial⟩ ?_
       rintro _ PN ⟨rk,rl,rm,kO,kP,kQ,rfl,dL,rn,dM,dN,EH,ow⟩
       have MW:=ow.size
       have EI:=dL.lth
       have EJ:=dM.lth
       refine kG ow ?_
       have xo:=Gr.trans (Gr.trans (Gr.trans d0 iS) ou) ow
       have fZ:=((Kp.refl ([]) oq).gr xo)
       refine dn 0 rfl rfl fZ<|dn 0 rfl rfl fZ<|dn 0 rfl rfl fZ<|dn 0 rfl rfl fZ ?_
       have xp:=(pr.gr ow)
       refine qz [(1,EE)] rfl (Qr Ju rfl rfl (Xl.cs_ones _ _ (Qe.oneB dL)) xp rfl rfl) ⟨fun _=>Qb,trivial⟩ ?_
       rintro _ EK ⟨MX,my⟩
       have MY:=my.size
       refine kM my ?_
       have pt:=(fZ.md my)
       refine dn 0 rfl rfl pt<|dn 0 rfl rfl pt<|Qi ?_
       have K_110:Kz [] dq EK:=(((Kz.gr (Kz.refl _ _) dr).gr xo).md my)
       have xq:=(dM.md my (Qt dN))
       exact⟨rfl,⟨xm.2.2,xm.2.1,kO,kP,kQ⟩,Qh,hm,xq,⟨(Qk (A:=(fun x=>dq.heap.size≤x)) dN)⟩,K_110⟩
     refine Xo<|qz [] rfl (Qz (cs:=Xl.cs (Xl.mk (Xt.mk 0 [] (Qx.mk 0#64 0#64)) 0 (Jg.mk (Xw.mk false 0 k0) (Xw.mk false 0 k0))) (.slice none 0 0)) Vx rfl) ⟨fun _=>Qb,trivial⟩ ?_
     rintro _ PO ⟨EL,rfl,EM,pu,ox⟩
     have MZ:=ox.size
     have EN:=pu.lt
     refine kG ox ?_
     obtain⟨PP,xr,hm⟩:=Qd hm
     refine qz [] rfl (eC Jh rfl (Ji xr)) ⟨fun _=>Qb,trivial⟩ ?_
     rintro _ PQ ⟨rfl,mz⟩
     have M0:=mz.size
     refine kG mz ?_
     have oy:=Gr.trans (Gr.trans (Gr.trans dr d0) ox) mz
     have xs:=(bM.gr oy)
     have xt:=(((((ao.kz j).kz h).kz g).kz n).gr oy)
     have xu:=(((((ap.kz j).kz h).kz g).kz n).gr oy)
     have xv:=(((((aq.kz j).kz h).kz g).kz n).gr oy)
     obtain⟨xw,xx,hm⟩:=Qd hm
     refine qz [] rfl (eC Wv rfl (Ww xx (Qe.rd xs) (Qe.rd xt) (Qe.rd xu) (Qe.rd xv))) ⟨fun _=>Qb,trivial⟩ ?_
     rintro _ PR ⟨ro,rp,rq,kR,kS,kT,rfl,dO,rr,dP,dQ,EO,oz⟩
     have M1:=oz.size
     have EP:=dO.lth
     have EQ:=dP.lth
     refine kG oz ?_
     have xy:=Gr.trans (Gr.trans (Gr.trans d0 ox) mz) oz
     have f0:=((Kp.refl ([]) oq).gr xy)
     refine dn 0 rfl rfl f0<|dn 0 rfl rfl f0<|dn 0 rfl rfl f0<|dn 0 rfl rfl f0 ?_
     have xz:=((pu.gr mz).gr oz)
     refine qz [(1,EL)] rfl (Qr Ju rfl rfl (Xl.cs_ones _ _ (Qe.oneB dO)) xz rfl rfl) ⟨fun _=>Qb,trivial⟩ ?_
     rintro _ ER ⟨M2,mA⟩
     have M3:=mA.size
     refine kM mA ?_
     have pw:=(f0.md mA)
     refine dn 0 rfl rfl pw<|dn 0 rfl rfl pw<|Qi ?_
     have K_126:Kz [] dq ER:=(((Kz.gr (Kz.refl _ _) dr).gr xy).md mA)
     have xA:=(dP.md mA (Qt dQ))
     exact⟨rfl,⟨xw.2.2,xw.2.1,kR,kS,kT⟩,Qh,hm,xA,⟨(Qk (A:=(fun x=>dq.heap.size≤x)) dQ)⟩,K_126⟩
   refine Xo<|qz [] rfl (Qz (cs:=Xl.cs (Xl.mk (Xt.mk 0 [] (Qx.mk 0#64 0#64)) 0 (Jg.mk (Xw.mk false 0 k0) (Xw.mk false 0 k0))) (.slice none 0 0)) Vx rfl) ⟨fun _=>Qb,trivial⟩ ?_
   rintro _ PS ⟨ES,rfl,ET,px,oA⟩
   have M4:=oA.size
   have EU:=px.lt
   refine kG oA ?_
   obtain⟨PT,xB,hm⟩:=Qd hm
   refine qz [] rfl (eC Yb rfl (Yc xB)) ⟨fun _=>Qb,trivial⟩ ?_
   rintro _ PU ⟨rfl,mB⟩
   have M5:=mB.size
   refine kG mB ?_
   obtain⟨PW,xC,hm⟩:=Qd hm
   refine qz [] rfl (eC Jh rfl (Ji xC)) ⟨fun _=>Qb,trivial⟩ ?_
   rintro _ PX ⟨rfl,mC⟩
   have M6:=mC.size
   refine kG mC ?_
   have oB:=Gr.trans (Gr.trans (Gr.trans dr oA) mB) mC
   have xD:=(bM.gr oB)
   have xE:=(((((ao.kz j).kz h).kz g).kz n).gr oB)
   have xF:=(((((ap.kz j).kz h).kz g).kz n).gr oB)
   have xG:=(((((aq.kz j).kz h).kz g).kz n).gr oB)
   obtain⟨xH,xI,hm⟩:=Qd hm
   refine qz [] rfl (eC Wv rfl (Ww xI (Qe.rd xD) (Qe.rd xE) (Qe.rd xF) (Qe.rd xG))) ⟨fun _=>Qb,trivial⟩ ?_
   rintro _ PY ⟨rs,rt,ru,kU,kV,kW,rfl,dR,rv,dS,dT,EW,oC⟩
   have M7:=oC.size
   have EX:=dR.lth
   have EY:=dS.lth
   refine kG oC ?_
   have xJ:=Gr.trans (Gr.trans (Gr.trans oA mB) mC) oC
   have f1:=((Kp.refl ([]) oq).gr xJ)
   refine dn 0 rfl rfl f1<|dn 0 rfl rfl f1<|dn 0 rfl rfl f1<|dn 0 rfl rfl f1 ?_
   have EZ:=Gr.trans (Gr.trans mB mC) oC
   have xK:=(px.gr EZ)
   refine qz [(1,ES)] rfl (Qr Ju rfl rfl (Xl.cs_ones _ _ (Qe.oneB dR)) xK rfl rfl) ⟨fun _=>Qb,trivial⟩ ?_
   rintro _ E0 ⟨M8,mD⟩
   have M9:=mD.size
   refine kM mD ?_
   have py:=(f1.md mD)
   refine dn 0 rfl rfl py<|dn 0 rfl rfl py<|Qi ?_
   have K_143:Kz [] dq E0:=(((Kz.gr (Kz.refl _ _) dr).gr xJ).md mD)
   have xL:=(dS.md mD (Qt dT))
   exact⟨rfl,⟨xH.2.2,xH.2.1,kU,kV,kW⟩,Qh,hm,xL,⟨(Qk (A:=(fun x=>dq.heap.size≤x)) dT)⟩,K_143⟩
 clear hm;rintro⟨mv,kH,vy39,zy39,gy39⟩ PZ ⟨hm,jP,yV,ar⟩
 have P0:=ar.size
 have Ne:=jP.lth
 unfold Qh5 at hm
 refine Qj<|dw [([])] [] (.leaf [(2,10),(3,10),(0,0),(1,0),(4,0),(5,10),(6,10),(7,10),(8,10),(9,10)]) ?_
 intro E1 qW No
 refine Xo ?_
 have xM:=((((jN.kz g).kz n).kz ar).gr qW)
 refine dh 0 rfl rfl (fun w hS=>Qu Ju rfl (Bx.kp xM hS) rfl) ?_
 have E2:=(((((((dV.kz u).kz j).kz h).kz g).kz n).kz ar).gr qW)
 refine dh 0 rfl rfl (fun w hS=>Qu Zl rfl (Bx.kp E2 hS) rfl) ?_
 obtain⟨P1,xN,hm⟩:=Qd hm
 refine qz [] rfl (eC Yb rfl (Yc xN)) ⟨fun _=>Qb,trivial⟩ ?_
 rintro _ P2 ⟨rfl,oD⟩
 have P3:=oD.size
 refine kG oD ?_
 obtain⟨P4,xO,hm⟩:=Qd hm
 refine qz [] rfl (eC Jh rfl (Ji xO)) ⟨fun _=>Qb,trivial⟩ ?_
 rintro _ P5 ⟨rfl,oE⟩
 have P6:=oE.size
 refine kG oE ?_
 have mE:=Gr.trans (Gr.trans qW oD) oE
 have xP:=((((jM.kz g).kz n).kz ar).gr mE)
 have E3:=(((((((al.kz u).kz j).kz h).kz g).kz n).kz ar).gr mE)
 have E4:=(((((((am.kz u).kz j).kz h).kz g).kz n).kz ar).gr mE)
 have E5:=(((((((an.kz u).kz j).kz h).kz g).kz n).kz ar).gr mE)
 obtain⟨E6,xQ,hm⟩:=Qd hm
 refine qz [] rfl (eC Wv rfl (Ww xQ (Qe.rd xP) (Qe.rd E3) (Qe.rd E4) (Qe.rd E5))) ⟨fun _=>Qb,trivial⟩ ?_
 rintro _ P7 ⟨rx,ry,rz,rA,rB,rC,rfl,kX,rD,kY,rE,E7,mF⟩
 have P8:=mF.size
 have NA:=kX.lth
 have NB:=kY.lth
 refine kG mF ?_
 have xR:=Gr.trans (Gr.trans oD oE) mF
 have mG:=((Kp.refl ([]) E1).gr xR)
 refine dn 0 rfl rfl mG<|dn 0 rfl rfl mG<|dn 0 rfl rfl mG<|dn 0 rfl rfl mG<|dn 0 rfl rfl mG<|Qa<|Qj ?_
 refine dw [([])] [] (.leaf [(2,10),(3,10),(0,0),(1,0),(4,0),(5,10),(6,10),(7,10),(8,10),(9,10)]) ?_
 intro E8 qX NC
 refine Xo ?_
 have E9:=Gr.trans xR qX
 have Fd:=(xM.gr E9)
 refine dh 0 rfl rfl (fun w hS=>Qu Ju rfl (Bx.kp Fd hS) rfl) ?_
 have xS:=Gr.trans (Gr.trans mE mF) qX
 have Fk:=((((((dY.kz j).kz h).kz g).kz n).kz ar).gr xS)
 refine dh 0 rfl rfl (fun w hS=>Qu Zl rfl (Bx.kp Fk hS) rfl) ?_
 obtain⟨P9,xT,hm⟩:=Qd hm
 refine qz [] rfl (eC Yb rfl (Yc xT)) ⟨fun _=>Qb,trivial⟩ ?_
 rintro _ QA ⟨rfl,mH⟩
 have QB:=mH.size
 refine kG mH ?_
 obtain⟨QC,xU,hm⟩:=Qd hm
 refine qz [] rfl (eC Jh rfl (Ji xU)) ⟨fun _=>Qb,trivial⟩ ?_
 rintro _ QD ⟨rfl,mI⟩
 have QE:=mI.size
 refine kG mI ?_
 have Fn:=Gr.trans (Gr.trans (Gr.trans mF qX) mH) mI
 have Fr:=(xP.gr Fn)
 have kZ:=Gr.trans (Gr.trans xS mH) mI
 have Fx:=((((((ao.kz j).kz h).kz g).kz n).kz ar).gr kZ)
 have Fy:=((((((ap.kz j).kz h).kz g).kz n).kz ar).gr kZ)
 have FB:=((((((aq.kz j).kz h).kz g).kz n).kz ar).gr kZ)
 obtain⟨FC,xV,hm⟩:=Qd hm
 refine qz [] rfl (eC Wv rfl (Ww xV (Qe.rd Fr) (Qe.rd Fx) (Qe.rd Fy) (Qe.rd FB))) ⟨fun _=>Qb,trivial⟩ ?_
 rintro _ QF ⟨rF,rG,rH,rI,rJ,rK,rfl,la,rL,lb,rM,FD,lc⟩
 have QG:=lc.size
 have ND:=la.lth
 have NE:=lb.lth
 refine kG lc ?_
 have FE:=Gr.trans (Gr.trans mH mI) lc
 have mJ:=((Kp.refl ([]) E8).gr FE)
 refine dn 0 rfl rfl mJ<|dn 0 rfl rfl mJ<|dn 0 rfl rfl mJ<|dn 0 rfl rfl mJ<|dn 0 rfl rfl mJ<|Qa<|Qj ?_
 refine qg 20 rfl<|qm rfl<|qv rfl (Kw (a:=kj) (b:=0) rfl rfl)<|Kr hm rfl (Qw rfl) (fun c3 hm=>?_) (fun c3 hm=>?_)
 · refine qn 7 rfl ?_
   refine qn 7 rfl ?_
   refine qn 3 rfl<|Qa<|Qs ?_
   have FF:=Gr.trans kZ lc
   have FG:=((mu.kz ar).trans FF)
   cases hm
   exact⟨_,_,rfl,Xj rfl (Qn rfl),rfl,FG⟩
 refine qm rfl<|qv rfl (Kw (a:=mv) (b:=0) rfl rfl)<|qm rfl<|Kr hm rfl (Qw rfl) (fun c4 hm=>?_) (fun c4 hm=>?_)
 · refine qn 7 rfl ?_
   refine qn 6 rfl<|Qa ?_
   refine Qs ?_
   have FH:=Gr.trans kZ lc
   have FI:=((mu.kz ar).trans FH)
   cases hm
   exact⟨_,_,rfl,Xj rfl (Qn rfl),rfl,FI⟩
 refine qm rfl ?_
 have oF:=Gr.trans kZ lc
 have FJ:=(jP.gr oF)
 refine qv rfl (Qwc (l:=kH) Tryz.underlying54 Tryz.underlying5 Tryz.underlying9 rfl (Qe.rd FJ))<|qv rfl (Qwj (l:=kH) (m:=[97#8,98#8,99#8]) rfl rfl)<|qm rfl<|Kr hm rfl (Qw rfl) (fun c5 hm=>?_) (fun c5 hm=>?_)
 · refine qn 7 rfl ?_
   refine qm rfl<|Qa<|Qs ?_
   have FK:=((mu.kz ar).trans oF)
   cases hm
   exact⟨_,_,rfl,Xj rfl (Qn rfl),rfl,FK⟩
 refine qm rfl<|qv rfl (Kw (a:=E6.2.2) (b:=6) rfl rfl)<|qm rfl<|Zm hm rfl (Qw rfl) (fun c6 hm=>?_) (fun c6 hm=>?_)
 · refine qm rfl<|qv rfl (Kw (a:=FC.2.2) (b:=6) rfl rfl)<|qn 2 rfl<|Qa<|Qs ?_
   have FL:=((mu.kz ar).trans oF)
   cases hm
   exact⟨_,_,rfl,Xj rfl (Qn rfl),rfl,FL⟩
 refine qn 4 rfl<|Qa<|Qs ?_
 have FM:=((mu.kz ar).trans oF)
 cases hm
 exact⟨_,_,rfl,Xj rfl (Qn rfl),rfl,FM⟩
end Go.Proofs.YtplcaaglieefgaaGreat.Mx
