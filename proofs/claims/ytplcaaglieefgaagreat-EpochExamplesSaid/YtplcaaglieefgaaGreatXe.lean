/- Walks that follow mirrors: Xe. Printed by mx.py. -/
import Derived.Test.YtplcaaglieefgaaGreatXd
import Derived.Test.YtplcaaglieefgaaGreatZd
set_option linter.unusedVariables false
set_option linter.unusedSimpArgs false
set_option maxRecDepth 100000
set_option maxHeartbeats 2000000
namespace Go.Proofs.YtplcaaglieefgaaGreat.Mx
open Go Go.RowKit Go.Sx
theorem Qcc:FA Tryz.prog 105 1 4:=fun _ _ _=>by kernel_rfl
theorem Ic:FA Tryz.prog 105 0 0:=fun _ _ _=>by kernel_rfl
theorem Qlm:FA Tryz.prog 67 0 0:=fun _ _ _=>by kernel_rfl
theorem Qgh:FA Tryz.prog 105 2 5:=fun _ _ _=>by kernel_rfl
theorem Dt:Kx Tryz.prog 102 18:=fun _=>⟨by kernel_rfl,by kernel_rfl⟩
theorem Qiv:ZV Tryz.prog 102 (.agg [.bool false,.int .i64 0,.int .u8 0,.int .u8 0,.int .u8 0,.int .u8 0,.int .u8 0,.int .u8 0,.int .u8 0,.int .u8 0,.int .u8 0,.int .u8 0,.int .u8 0,.int .u8 0,.int .u8 0,.int .u8 0,.int .u8 0,.int .u8 0].toArray):=fun _=>by kernel_rfl
theorem Ib:FA Tryz.prog 102 0 0:=fun _ _ _=>by kernel_rfl
theorem Dm:Vn Tryz.prog 4:=fun _=>⟨by kernel_rfl,by kernel_rfl⟩
theorem Qcb:FA Tryz.prog 102 1 1:=fun _ _ _=>by kernel_rfl
theorem Qeh:BS Tryz.prog 102 (fun i=>[(0,1),(1,1),(2,16)][i]?) [.bool false,.int .i64 0,.int .u8 0,.int .u8 0,.int .u8 0,.int .u8 0,.int .u8 0,.int .u8 0,.int .u8 0,.int .u8 0,.int .u8 0,.int .u8 0,.int .u8 0,.int .u8 0,.int .u8 0,.int .u8 0,.int .u8 0,.int .u8 0]:=Hg Tryz.underlying102 Qiv ⟨rfl,(Dm).siz,rfl,(Xm).siz,rfl,(Qy).siz,trivial⟩
theorem Qry:Yt Tryz.prog 1 4 [.b]:=Qs2 Tryz.underlying4 Dm
theorem Qru:Yt Tryz.prog 3 102 [.b,.i .i64,.i .u8,.i .u8,.i .u8,.i .u8,.i .u8,.i .u8,.i .u8,.i .u8,.i .u8,.i .u8,.i .u8,.i .u8,.i .u8,.i .u8,.i .u8,.i .u8]:=Ua Tryz.underlying102 (by kernel_rfl) Dt (show Gm _ 2 _ _ _ from(Hu (ks1:=[.b]) (ks2:=[.i .i64,.i .u8,.i .u8,.i .u8,.i .u8,.i .u8,.i .u8,.i .u8,.i .u8,.i .u8,.i .u8,.i .u8,.i .u8,.i .u8,.i .u8,.i .u8,.i .u8]) rfl (by simp) (Qry.up (by decide)) (Hu (ks1:=[.i .i64]) (ks2:=[.i .u8,.i .u8,.i .u8,.i .u8,.i .u8,.i .u8,.i .u8,.i .u8,.i .u8,.i .u8,.i .u8,.i .u8,.i .u8,.i .u8,.i .u8,.i .u8]) rfl (by simp) (Ay.up (by decide)) (Hu (ks1:=[.i .u8,.i .u8,.i .u8,.i .u8,.i .u8,.i .u8,.i .u8,.i .u8,.i .u8,.i .u8,.i .u8,.i .u8,.i .u8,.i .u8,.i .u8,.i .u8]) (ks2:=[]) rfl (by simp) (Qgf.up (by decide)) (Ub _)))))
theorem Qle:Ti Tryz.prog 102 [.b,.i .i64,.i .u8,.i .u8,.i .u8,.i .u8,.i .u8,.i .u8,.i .u8,.i .u8,.i .u8,.i .u8,.i .u8,.i .u8,.i .u8,.i .u8,.i .u8,.i .u8]:=⟨by kernel_rfl,Dt,3,by decide,Qru⟩
theorem Qqx:En Tryz.prog 34:=fun _ _=>by kernel_rfl
theorem Qpz:En Tryz.prog 112:=fun _ _=>by kernel_rfl
theorem Qfs:En Tryz.prog 49:=fun _ _=>by kernel_rfl
theorem Qow:Hf Tryz.prog 63 0 120 18 []:=Qej Tryz.underlying63 (Ly).siz
theorem Qr5:En Tryz.prog 74:=fun _ _=>by kernel_rfl
theorem Qli:FA Tryz.prog 143 2 2:=fun _ _ _=>by kernel_rfl
theorem Qq1:En Tryz.prog 118:=fun _ _=>by kernel_rfl
theorem Qq4:En Tryz.prog 121:=fun _ _=>by kernel_rfl
theorem Qk5:En Tryz.prog 16:=fun _ _=>by kernel_rfl
theorem Qr6:En Tryz.prog 75:=fun _ _=>by kernel_rfl
theorem Qsh:FA Tryz.prog 102 2 2:=fun _ _ _=>by kernel_rfl
theorem Qr7:En Tryz.prog 76:=fun _ _=>by kernel_rfl
theorem Qrg {p0 p1 p2 vp2_1 zp2_1 gp2_1 op2_1 r}(hm:Qfu p0 p1 p2=some r){w:World}(g:Rd w zp2_1 gp2_1 op2_1 18 vp2_1 (p2.Secret.Labels.map Zr.cs)):
 Calls Tryz.prog 34 [.agg (Xn.cs p0).toArray,.agg (Zi.cs p1).toArray,.agg (Xl.cs p2 vp2_1).toArray].toArray w fun e w'=>∃ v,e=.returned v∧(v=.int .i64 r∧Gr w w'):=by
 have V:=g.lth
 unfold Qfu at hm
 refine Xu 76 Tryz.func34 rfl rfl rfl<|qs 4 rfl<|qe rfl (Xp (cs:=Xn.cs p0) rfl rfl) ?_
 rintro _ w1 ⟨b1,rfl,P,s,G1⟩
 have z2:=G1.size
 have W:=s.lt
 refine qe rfl (Xp (cs:=Zi.cs p1) rfl rfl) ?_
 rintro _ w2 ⟨b2,rfl,Q,t,G2⟩
 have z4:=G2.size
 have X:=t.lt
 refine qe rfl (Xp (cs:=Xl.cs p2 vp2_1) rfl rfl) ?_
 rintro _ w3 ⟨b3,rfl,R,n,G3⟩
 have z6:=G3.size
 have Y:=n.lt
 refine qm rfl<|Qa<|Qj<|qs 4 rfl ?_
 have Y1:=Gr.trans G2 G3
 have B8:=(s.gr Y1)
 refine qv rfl (Qu Jr rfl B8 rfl) ?_
 have B9:=(t.gr G3)
 refine qv rfl (Qu Ya rfl B9 rfl) ?_
 obtain⟨x1,B,hm⟩:=Qd hm
 refine qe rfl (eC Qku rfl (Ql5 B)) ?_
 rintro _ w4 ⟨rfl,G4⟩
 have Z:=G4.size
 refine qm rfl<|qd 2 rfl<|qm rfl<|qv rfl (Zp (a:=x1) (b:=0) rfl rfl)<|Qa ?_
 refine Zv hm rfl (fun c1 hm=>?_) (fun c1 hm=>?_)
 · refine qs 2 rfl<|qn 2 rfl<|Qa<|Qs<|Zb ?_
   have Y2:=Gr.trans (Gr.trans G1 Y1) G4
   have C:=((Gr.refl w).trans Y2)
   cases hm
   exact⟨_,_,rfl,Xj rfl (Qn rfl),rfl,C⟩
 refine qu<|Qj ?_
 have Y3:=Gr.trans (Gr.trans G1 Y1) G4
 have u:=((Gr.refl w).trans Y3)
 refine qj (β:=Bool) (rg 16 28) (fun a2=>[(43,.bool a2)]) (fun a2 wr=>(Mr p2 a2=some r)∧Kz [] w4 wr) ?_ ?_
 · refine dw [([])] [] (.leaf [(0,10),(1,10),(2,10),(3,10),(4,10),(5,10),(6,10),(7,10),(8,10),(9,10),(10,10),(11,10),(12,10),(13,10),(14,10),(15,10),(16,10),(17,10),(18,10),(19,10),(20,10),(21,10),(22,10),(23,10),(24,10),(25,10),(26,10),(27,10)]) ?_
   intro o d S
   refine Xo<|dh 0 rfl rfl (fun w hS=>Qg Qcc rfl) ?_
   have m:=((n.gr G4).gr d)
   refine dh 0 rfl rfl (fun w hS=>Ql (v:=.int .i64 p2.Ahead) Xm rfl (Bx.kp m hS) rfl)<|dh 0 rfl rfl (fun w hS=>Qg De rfl) ?_
   have x:=((B9.gr G4).gr d)
   refine dh 0 rfl rfl (fun w hS=>Ql (v:=.int .i64 p1.Drift) Xm rfl (Bx.kp x hS) rfl)<|dh 0 rfl rfl (fun w hS=>Qo1 (a:=p1.Drift) rfl)<|dh 0 rfl rfl (fun w hS=>Jb (a:=p2.Ahead) (b:=Qp (-p1.Drift)) rfl rfl)<|qqI hm 0 rfl rfl (Kp.refl ([]) o) (fun w hS=>Qw rfl) (fun D hm=>?_) (fun D hm=>?_)
   · refine dx 0 rfl rfl<|dx 0 rfl rfl<|dx 0 rfl rfl<|dx 0 rfl rfl<|dx 0 rfl rfl<|dm 0 rfl rfl<|dm 0 rfl rfl ?_
     refine dx 0 rfl rfl<|dx 0 rfl rfl<|dx 0 rfl rfl<|dx 0 rfl rfl<|dm 0 rfl rfl<|dm 0 rfl rfl<|dx 0 rfl rfl ?_
     refine dx 0 rfl rfl<|dx 0 rfl rfl<|dx 0 rfl rfl<|dx 0 rfl rfl<|dx 0 rfl rfl<|dx 0 rfl rfl<|dm 0 rfl rfl ?_
     refine Qi ?_
     exact⟨rfl,true,Qh,hm,(Xi.gr d)⟩
   refine dh 0 rfl rfl (fun w hS=>Qg Qcc rfl)<|dh 0 rfl rfl (fun w hS=>Ql (v:=.int .i64 p2.Ahead) Xm rfl (Bx.kp m hS) rfl)<|dh 0 rfl rfl (fun w hS=>Qg De rfl)<|dh 0 rfl rfl (fun w hS=>Ql (v:=.int .i64 p1.Drift) Xm rfl (Bx.kp x hS) rfl)<|dh 0 rfl rfl (fun w hS=>Ve (a:=p2.Ahead) (b:=p1.Drift) rfl rfl)<|dm 0 rfl rfl<|qqI hm 0 rfl rfl (Kp.refl ([]) o) (fun w hS=>Qw rfl) (fun E hm=>?_) (fun E hm=>?_)
   · refine dx 0 rfl rfl<|dx 0 rfl rfl<|dx 0 rfl rfl<|dx 0 rfl rfl<|dm 0 rfl rfl<|dm 0 rfl rfl<|dx 0 rfl rfl ?_
     refine dx 0 rfl rfl<|dx 0 rfl rfl<|dx 0 rfl rfl<|dx 0 rfl rfl<|dx 0 rfl rfl<|dx 0 rfl rfl<|dm 0 rfl rfl ?_
     refine Qi ?_
     exact⟨rfl,true,Qh,hm,(Xi.gr d)⟩
   refine dh 0 rfl rfl (fun w hS=>Qg Ic rfl)<|dh 0 rfl rfl (fun w hS=>Qg Qlm rfl)<|dh 0 rfl rfl (fun w hS=>Ql (v:=.int .i64 p2.Secret.Receiver) Xm rfl (Bx.kp m hS) rfl)<|dh 0 rfl rfl (fun w hS=>Jb (a:=p2.Secret.Receiver) (b:=0) rfl rfl)<|dm 0 rfl rfl<|qqI hm 0 rfl rfl (Kp.refl ([]) o) (fun w hS=>Qw rfl) (fun F hm=>?_) (fun F hm=>?_)
   · refine dx 0 rfl rfl<|dx 0 rfl rfl<|dx 0 rfl rfl<|dx 0 rfl rfl<|dx 0 rfl rfl<|dx 0 rfl rfl<|dx 0 rfl rfl ?_
     refine dm 0 rfl rfl<|Qi ?_
     exact⟨rfl,true,Qh,hm,(Xi.gr d)⟩
   refine dh 0 rfl rfl (fun w hS=>Qg Ic rfl)<|dh 0 rfl rfl (fun w hS=>Qg Qlm rfl)<|dh 0 rfl rfl (fun w hS=>Ql (v:=.int .i64 p2.Secret.Receiver) Xm rfl (Bx.kp m hS) rfl)<|dh 0 rfl rfl (fun w hS=>Qg Ga rfl) ?_
   have G:=((B8.gr G4).gr d)
   refine dh 0 rfl rfl (fun w hS=>Ql (v:=.int .i64 p0.Depth) Xm rfl (Bx.kp G hS) rfl) ?_
   obtain⟨nn9,hnn9,hm⟩:=Qd hm
   refine dh 0 rfl rfl (fun w hS=>Ef (a:=1) (b:=p0.Depth) rfl rfl hnn9)<|dh 0 rfl rfl (fun w hS=>Vd (a:=p2.Secret.Receiver) (b:=Hb 1 nn9) rfl rfl)<|dm 0 rfl rfl<|Qi ?_
   exact⟨rfl,(decide (Hb 1 nn9≤p2.Secret.Receiver)),Qh,hm,(Xi.gr d)⟩
 clear hm;rintro a2 w5 ⟨hm,K5⟩
 have aa:=K5.size
 unfold Mr at hm
 refine Zw hm rfl (fun c2 hm=>?_) (fun c2 hm=>?_)
 · refine qs 1 rfl<|qm rfl<|qb ?_
   have H:=(u.kz K5)
   cases hm
   exact⟨_,_,rfl,Xj rfl (Qn rfl),rfl,H⟩
 refine qu<|Qj<|qs 3 rfl<|qv rfl (Qg Qgh rfl) ?_
 have I:=((n.gr G4).kz K5)
 refine qv rfl (Jm (vs:=Jg.cs p2.Slots) Qix rfl I rfl rfl)<|qm rfl<|Qa<|Xz ?_
 have y:=(u.kz K5)
 have ab:=((g.gr Y3).kz K5)
 refine Kb (α:=Nat × Int) ([6,8,9]++rg 46 30) (fun⟨n2,a4⟩=>[(6,.int .i64 0),(46,.int .i64 a4)]) (fun⟨n2,a4⟩ wr=>(Xq (Qbf p2) n2 a4=some r)∧Kz [] w5 wr) (fun⟨n2,a4⟩=>n2) ⟨Ze,0⟩ ?_ ?_ ?_
 · exact Qh
 · exact⟨hm,Kz.refl _ _⟩
 clear hm;rintro⟨n2,a4⟩ w6 ⟨hm,K6⟩
 have ac:=K6.size
 have hb:=Kd hm;clear hm;obtain⟨n2,rfl,hm⟩:=hb
 generalize p:Xq (Qbf p2) n2=z at hm
 unfold Qbf at hm
 try dsimp only at hm
 refine qs 1 rfl<|qv rfl (Jb (a:=a4) (b:=2) rfl rfl)<|Qa<|Qj<|Kg hm rfl (fun c3 hm=>?_) (fun c3 hm=>?_)
 · refine Jl<|Zd<|Zd<|Jk<|Zg<|qs 1 rfl ?_
   refine qm rfl<|Qa<|Qs ?_
   have J:=(y.kz K6)
   cases hm
   exact⟨_,_,rfl,Xj rfl (Qn rfl),rfl,J⟩
 refine qu<|Qj<|Xz<|qs 5 rfl<|qm rfl ?_
 obtain⟨y5,K,hm⟩:=Qd hm
 refine qv rfl (Qwo (l:=[p2.Slots.a0,p2.Slots.a1]) (c:=Xw.cs) (i:=a4) Tryz.underlying103 (Dt).siz Dt rfl rfl rfl (Wk _ (fun _=>rfl) (fun _=>rfl)) rfl K)<|qe rfl (Qz (cs:=Xw.cs (Xw.mk false 0 k0)) Qiv rfl) ?_
 rintro _ w7 ⟨b7,rfl,T,A,G7⟩
 have ad:=G7.size
 have U:=A.lt
 refine qm rfl<|qe rfl (Qr Dt rfl rfl rfl A rfl rfl) ?_
 rintro _ w8 ⟨j,M8⟩
 have ae:=M8.size
 refine Qa ?_
 have L:=(((y.kz K6).trans G7).md M8)
 refine qj (β:=Bool) (rg 50 25) (fun a6=>[(74,.bool a6)]) (fun a6 wr=>(Sp a4 z a6=some r)∧Kz [] w8 wr) ?_ ?_
 · refine qg 25 rfl<|qv rfl (Qg Ib rfl)<|qv rfl (Ql (v:=.bool y5.Full) Dm rfl j rfl)<|Bz hm rfl (Qw rfl) (fun c5 hm=>?_) (fun c5 hm=>?_)
   · refine qn 7 rfl ?_
     refine qn 6 rfl<|qv rfl (Qg Ib rfl) ?_
     refine qv rfl (Ql (v:=.bool y5.Full) Dm rfl j rfl)<|qv rfl (Jj rfl)<|Bz hm rfl (Qw rfl) (fun c9 hm=>?_) (fun c9 hm=>?_)
     · refine qn 5 rfl<|Qi ?_
       exact⟨rfl,false,Qh,hm,Xi⟩
     refine qv rfl (Qu Dt rfl j rfl)<|qv rfl (Zk (cs:=Xw.cs (Xw.mk false 0 k0)) Qeh rfl (by kernel_rfl))<|qv rfl (Gj (cf:=Xw.cs) (a:=y5) (b:=(Xw.mk false 0 k0)) Qle rfl rfl rfl rfl (fun h=>Xw.cs_inj h))<|qn 2 rfl<|Qi ?_
     exact⟨rfl,(decide (y5≠(Xw.mk false 0 k0))),Qh,hm,Xi⟩
   refine qv rfl (Qg Qcb rfl)<|qv rfl (Ql (v:=.int .i64 y5.Epoch) Xm rfl j rfl) ?_
   obtain⟨x7,M,hm⟩:=Qd hm
   refine qe rfl (eC Sk rfl (Sr M)) ?_
   rintro _ af ⟨rfl,f⟩
   have ag:=f.size
   refine qv rfl (Jj rfl)<|Pw hm rfl (Qw rfl) (fun c6 hm=>?_) (fun c6 hm=>?_)
   · refine qn 7 rfl ?_
     refine qn 7 rfl ?_
     refine qn 3 rfl<|Qi ?_
     exact⟨rfl,true,Qh,hm,(Xi.gr f)⟩
   refine qv rfl (Qg Qcb rfl) ?_
   have q:=(j.gr f)
   refine qv rfl (Ql (v:=.int .i64 y5.Epoch) Xm rfl q rfl) ?_
   obtain⟨x8,N,hm⟩:=Qd hm
   refine qv rfl (Db (a:=y5.Epoch) (b:=2) rfl rfl N)<|qm rfl<|qv rfl (Zp (a:=x8) (b:=a4) rfl rfl)<|qn 2 rfl<|Zm hm rfl (Qw rfl) (fun c7 hm=>?_) (fun c7 hm=>?_)
   · refine qn 7 rfl ?_
     refine qn 2 rfl<|Qi ?_
     exact⟨rfl,true,Qh,hm,(Xi.gr f)⟩
   refine qv rfl (Qg Ib rfl)<|qv rfl (Ql (v:=.bool y5.Full) Dm rfl q rfl)<|qv rfl (Jj rfl)<|Bz hm rfl (Qw rfl) (fun c8 hm=>?_) (fun c8 hm=>?_)
   · refine qn 5 rfl<|Qi ?_
     exact⟨rfl,false,Qh,hm,(Xi.gr f)⟩
   refine qv rfl (Qu Dt rfl q rfl)<|qv rfl (Zk (cs:=Xw.cs (Xw.mk false 0 k0)) Qeh rfl (by kernel_rfl))<|qv rfl (Gj (cf:=Xw.cs) (a:=y5) (b:=(Xw.mk false 0 k0)) Qle rfl rfl rfl rfl (fun h=>Xw.cs_inj h))<|qn 2 rfl<|Qi ?_
   exact⟨rfl,(decide (y5≠(Xw.mk false 0 k0))),Qh,hm,(Xi.gr f)⟩
 clear hm;rintro a6 w9 ⟨hm,K9⟩
 have ah:=K9.size
 unfold Sp at hm
 refine Zw hm rfl (fun c4 hm=>?_) (fun c4 hm=>?_)
 · refine qs 1 rfl<|qm rfl<|Qa<|Qs<|Je<|Zb ?_
   refine Zb<|Je<|Zb ?_
   have O:=(L.kz K9)
   cases hm
   exact⟨_,_,rfl,Xj rfl (Qn rfl),rfl,O⟩
 refine Vl<|Zo<|Zg<|qg 2 rfl<|qv rfl (Zy (k:=.i64) (a:=a4) (b:=1) rfl rfl)<|qm rfl<|Qi ?_
 have K_25:Kz [] w5 w9:=(((K6.gr G7).md M8).kz K9)
 subst p
 exact⟨rfl,⟨n2,Qp (a4+1)⟩,Qh,⟨hm,K_25⟩,Nat.lt_succ_self _⟩
theorem Qrf {p0 r}(hm:Qfv p0=some r){w:World}:
 Calls Tryz.prog 112 [.agg (Zc.cs p0).toArray].toArray w fun e w'=>∃ v,e=.returned v∧(v=.bool r∧Gr w w'):=by
 unfold Qfv at hm
 refine Xu 21 Tryz.func112 rfl rfl rfl<|qs 2 rfl<|qe rfl (Xp (cs:=Zc.cs p0) rfl rfl) ?_
 rintro _ w1 ⟨b1,rfl,d,c,G1⟩
 have z1:=G1.size
 have f:=c.lt
 refine qm rfl<|qd 19 rfl<|qv rfl (Qg Sv rfl)<|qv rfl (Qg Bg rfl)<|qv rfl (Ql (v:=.int .i64 p0.Subset.Node) Xm rfl c rfl) ?_
 refine qv rfl (Qg Sv rfl)<|qv rfl (Qg Tw rfl)<|qv rfl (Ql (v:=.int .i64 p0.Subset.Minus) Xm rfl c rfl)<|qv rfl (Qws rfl rfl)<|qv rfl (Jb (a:=Gf p0.Subset.Node p0.Subset.Minus) (b:=0) rfl rfl)<|Zm hm rfl (Qw rfl) (fun c1 hm=>?_) (fun c1 hm=>?_)
 · refine qn 7 rfl ?_
   refine qn 3 rfl<|Qa<|Qs ?_
   have X3:=((Gr.refl w).trans G1)
   cases hm
   exact⟨_,_,rfl,Xj rfl (Qn rfl),rfl,X3⟩
 refine qv rfl (Qg Sv rfl)<|qv rfl (Qg Bg rfl)<|qv rfl (Ql (v:=.int .i64 p0.Subset.Node) Xm rfl c rfl)<|qv rfl (Qg Sv rfl)<|qv rfl (Qg Tw rfl)<|qv rfl (Ql (v:=.int .i64 p0.Subset.Minus) Xm rfl c rfl)<|qv rfl (Qnz rfl rfl) ?_
 refine qv rfl (Ve (a:=Iv p0.Subset.Node p0.Subset.Minus) (b:=127) rfl rfl)<|qn 2 rfl<|Qa<|Qs ?_
 have X4:=((Gr.refl w).trans G1)
 cases hm
 exact⟨_,_,rfl,Xj rfl (Qn rfl),rfl,X4⟩
theorem Qva {p0 vp0 zp0 gp0 op0 r}(hm:Qih p0=some r){w:World}(d:Rd w zp0 gp0 op0 18 vp0 (p0.map Zc.cs)):
 Calls Tryz.prog 202 [vp0,.func (.func 112) [].toArray [].toArray].toArray w fun e w'=>∃ v,e=.returned v∧(v=.int .i64 r∧Gr w w'):=by
 have m:=d.lth
 unfold Qih at hm
 refine Xu 19 Tryz.func202 rfl rfl rfl<|qs 1 rfl<|qm rfl<|Qa<|Qj<|Qj ?_
 refine qg 3 rfl<|qm rfl<|qv rfl (Zx (l:=p0) (c:=Zc.cs) Tryz.underlying50 rfl d)<|qm rfl<|Qa<|Xz<|Kb (α:=Nat × Int) ([4,5]++rg 8 11) (fun⟨n1,a2⟩=>[(4,.int .i64 0),(8,.int .i64 a2)]) (fun⟨n1,a2⟩ wr=>(Xq (Qdv p0) n1 a2=some r)∧Kz [] w wr) (fun⟨n1,a2⟩=>n1) ⟨Ze,0⟩ ?_ ?_ ?_
 · exact Qh
 · exact⟨hm,Kz.refl _ _⟩
 clear hm;rintro⟨n1,a2⟩ w1 ⟨hm,K1⟩
 have z2:=K1.size
 have hb:=Kd hm;clear hm;obtain⟨n1,rfl,hm⟩:=hb
 generalize f:Xq (Qdv p0) n1=j at hm
 unfold Qdv at hm
 try dsimp only at hm
 refine qs 1 rfl<|qv rfl (Jb (a:=a2) (b:=(p0.length:Int)) rfl rfl)<|Qa<|Qj<|Kg hm rfl (fun c1 hm=>?_) (fun c1 hm=>?_)
 · refine Jl<|Zd<|Zd<|Jk<|Zg<|qs 1 rfl ?_
   refine qm rfl<|Qa<|Qs ?_
   have X7:=((Gr.refl w).kz K1)
   cases hm
   exact⟨_,_,rfl,Xj rfl (Qn rfl),rfl,X7⟩
 refine qu<|Qj<|Xz<|qs 2 rfl<|qm rfl ?_
 refine qm rfl<|qd 6 rfl<|qn 3 rfl ?_
 obtain⟨y3,g,hm⟩:=Qd hm
 have B3:=(d.kz K1)
 refine qv rfl (Vm (i:=a2) Tryz.underlying50 (Wl).siz rfl B3 rfl g)<|qv rfl (He Wl rfl B3 g (by first|rfl|omega)) ?_
 obtain⟨x4,h,hm⟩:=Qd hm
 refine qe rfl (Vk Qpz rfl rfl (Qrf h)) ?_
 rintro _ w2 ⟨rfl,G2⟩
 have z4:=G2.size
 refine Qa<|Zw hm rfl (fun c2 hm=>?_) (fun c2 hm=>?_)
 · refine qs 2 rfl<|qn 2 rfl<|Qa<|Qs<|Je ?_
   refine Zb<|Zb<|Je<|Zb ?_
   have X5:=(((Gr.refl w).kz K1).trans G2)
   cases hm
   exact⟨_,_,rfl,Xj rfl (Qn rfl),rfl,X5⟩
 refine Vl<|Zo<|Zg<|qg 2 rfl<|qv rfl (Zy (k:=.i64) (a:=a2) (b:=1) rfl rfl)<|qm rfl<|Qi ?_
 have K_6:Kz [] w w2:=(K1.gr G2)
 subst f
 exact⟨rfl,⟨n1,Qp (a2+1)⟩,Qh,⟨hm,K_6⟩,Nat.lt_succ_self _⟩
theorem Qv6 {p0 vp0 zp0 gp0 op0 r}(hm:Qid p0=some r){w:World}(c:Rd w zp0 gp0 op0 18 vp0 (p0.map Zc.cs)):
 Calls Tryz.prog 113 [vp0,.func (.func 112) [].toArray [].toArray].toArray w fun e w'=>∃ v,e=.returned v∧(v=.bool r∧Gr w w'):=by
 have f:=c.lth
 unfold Qid at hm
 refine Xu 9 Tryz.func113 rfl rfl rfl<|qs 1 rfl<|qm rfl<|qd 5 rfl ?_
 refine qn 2 rfl ?_
 obtain⟨x1,d,hm⟩:=Qd hm
 refine qe rfl (eC Qk7 rfl (Qva d c)) ?_
 rintro _ w1 ⟨rfl,G1⟩
 have z2:=G1.size
 refine qv rfl (Vd (a:=x1) (b:=0) rfl rfl)<|qm rfl<|Qa<|Qs ?_
 have X3:=((Gr.refl w).trans G1)
 cases hm
 exact⟨_,_,rfl,Xj rfl (Qn rfl),rfl,X3⟩
theorem Qfw {p0 vp0_2 zp0_2 gp0_2 op0_2 vp0_4 zp0_4 gp0_4 op0_4 vp0_39 zp0_39 gp0_39 op0_39 r}(hm:Am p0=some r){w:World}(j:Rd w zp0_2 gp0_2 op0_2 18 vp0_2 (p0.Head.Items.map Zc.cs))(k:Rd w zp0_4 gp0_4 op0_4 2 vp0_4 (p0.Head.Points.map Qx.cs))(f:Rd w zp0_39 gp0_39 op0_39 1 vp0_39 (p0.Data.map Xx)):
 Calls Tryz.prog 49 [.agg (Qo.cs p0 vp0_2 vp0_4 vp0_39).toArray].toArray w fun e w'=>∃ v,e=.returned v∧(v=.int .i64 r∧Gr w w'):=by
 have s:=j.lth
 have t:=k.lth
 have u:=f.lth
 unfold Am at hm
 refine Xu 99 Tryz.func49 rfl rfl rfl<|qs 2 rfl<|qe rfl (Xp (cs:=Qo.cs p0 vp0_2 vp0_4 vp0_39) rfl rfl) ?_
 rintro _ w1 ⟨b1,rfl,R,m,G1⟩
 have z4:=G1.size
 have T:=m.lt
 refine qm rfl<|qd 4 rfl<|qv rfl (Qg Vu rfl)<|qv rfl (Jm (vs:=Qq.cs p0.Head vp0_2 vp0_4) Jw rfl m rfl rfl)<|qe rfl (Qz (cs:=Qq.cs (Qq.mk [] 0#64 [] k0 k0) (.slice none 0 0) (.slice none 0 0)) Gl rfl) ?_
 rintro _ w2 ⟨b2,rfl,S,x,G2⟩
 have z6:=G2.size
 have U:=x.lt
 have Y1:=Gr.trans G1 G2
 have B8:=(j.gr Y1)
 have B9:=(k.gr Y1)
 refine qe rfl (Qr Jw rfl rfl (Qq.cs_ones _ _ _ (Rd.oneB B8) (Rd.oneB B9)) x rfl rfl) ?_
 rintro _ w3 ⟨g,M3⟩
 have V:=M3.size
 refine Qa ?_
 have A:=(((Gr.refl w).trans Y1).md M3)
 refine qj (β:=Bool) ([4]++rg 9 27) (fun a1=>[(4,.bool a1)]) (fun a1 wr=>(Rx p0 a1=some r)∧Kz [] w3 wr) ?_ ?_
 · refine qg 28 rfl<|qv rfl (Qg Wq rfl)<|qv rfl (Ql (v:=vp0_2) Wh rfl g rfl) ?_
   have B:=(B8.md M3 (Qm s))
   refine qv rfl (Zx (l:=p0.Head.Items) (c:=Zc.cs) Tryz.underlying50 rfl B)<|qv rfl (Kw (a:=(p0.Head.Items.length:Int)) (b:=0) rfl rfl)<|Kr hm rfl (Qw rfl) (fun C hm=>?_) (fun C hm=>?_)
   · refine qn 7 rfl ?_
     refine qn 7 rfl ?_
     refine qn 7 rfl ?_
     refine qn 2 rfl<|Qi ?_
     exact⟨rfl,false,Qh,hm,Xi⟩
   refine qv rfl (Qg Yk rfl)<|qv rfl (Ql (v:=vp0_4) Yi rfl g rfl) ?_
   have D:=(B9.md M3 (Qm t))
   refine qv rfl (Zx (l:=p0.Head.Points) (c:=Qx.cs) Tryz.underlying51 rfl D)<|qv rfl (Kw (a:=(p0.Head.Points.length:Int)) (b:=0) rfl rfl)<|qm rfl<|Kr hm rfl (Qw rfl) (fun E hm=>?_) (fun E hm=>?_)
   · refine qn 7 rfl ?_
     refine qn 7 rfl ?_
     refine qn 3 rfl<|Qi ?_
     exact⟨rfl,false,Qh,hm,Xi⟩
   refine qv rfl (Qg Gb rfl)<|qv rfl (Ql (v:=wv p0.Head.Base) Zh rfl g rfl)<|qv rfl (Ed (c:=p0.Head.Base) (d:=0#64) rfl rfl)<|qm rfl<|Kr hm rfl (Qw rfl) (fun F hm=>?_) (fun F hm=>?_)
   · refine qn 7 rfl ?_
     refine qn 5 rfl<|Qi ?_
     exact⟨rfl,false,Qh,hm,Xi⟩
   refine qv rfl (Qg Gc rfl)<|qv rfl (Jm (vs:=kb p0.Head.Box) Qy rfl g rfl rfl)<|qv rfl (Ho Hh)<|qv rfl (Qe0 (cf:=kb) (a:=p0.Head.Box) (b:=k0) Gx rfl rfl rfl rfl (fun h=>Dh h))<|qm rfl<|Kr hm rfl (Qw rfl) (fun G hm=>?_) (fun G hm=>?_)
   · refine qn 6 rfl<|Qi ?_
     exact⟨rfl,false,Qh,hm,Xi⟩
   refine qv rfl (Qg Gz rfl)<|qv rfl (Jm (vs:=kb p0.Head.Check) Qy rfl g rfl rfl)<|qv rfl (Ho Hh)<|qv rfl (Qe0 (cf:=kb) (a:=p0.Head.Check) (b:=k0) Gx rfl rfl rfl rfl (fun h=>Dh h))<|qn 2 rfl<|Qi ?_
   exact⟨rfl,(decide (p0.Head.Check=k0)),Qh,hm,Xi⟩
 clear hm;rintro a1 w4 ⟨hm,K4⟩
 have W:=K4.size
 unfold Rx at hm
 refine qs 1 rfl<|qm rfl<|qd 1 rfl<|qm rfl ?_
 refine Qa ?_
 have y:=(A.kz K4)
 refine qj (β:=Bool) ([6]++rg 36 61) (fun a2=>[(6,.bool a2)]) (fun a2 wr=>(Pq a2=some r)∧Kz [] w4 wr) ?_ ?_
 · refine qs 2 rfl<|qv rfl (Qg Ih rfl) ?_
   have i:=(((m.gr G2).md M3).kz K4)
   refine qv rfl (Ql (v:=bv p0.Kind) Zj rfl i rfl)<|Qa<|Xz<|qs 2 rfl<|qv rfl (Pb (p:=p0.Kind) (q:=1#8) rfl rfl)<|qm rfl ?_
   refine Qa<|Kg hm rfl (fun c2 hm=>?_) (fun c2 hm=>?_)
   · refine qs 2 rfl<|qv rfl (Pb (p:=p0.Kind) (q:=2#8) rfl rfl)<|qm rfl<|Qa<|Kg hm rfl (fun c9 hm=>?_) (fun c9 hm=>?_)
     · refine Vl<|Zo ?_
       exact⟨rfl,false,Qh,hm,Xi⟩
     refine qg 18 rfl<|qv rfl (Qg La rfl)<|qv rfl (Ql (v:=.int .i64 p0.Epoch) Xm rfl i rfl)<|qv rfl (Kw (a:=p0.Epoch) (b:=0) rfl rfl)<|Kr hm rfl (Qw rfl) (fun H hm=>?_) (fun H hm=>?_)
     · refine qn 7 rfl ?_
       refine qn 7 rfl ?_
       refine Qi<|Zo ?_
       exact⟨rfl,false,Qh,hm,Xi⟩
     refine qv rfl (Qg Ii rfl)<|qv rfl (Ql (v:=bv p0.Low) Zj rfl i rfl)<|qv rfl (Ee (p:=p0.Low) (q:=4#8) rfl rfl)<|qm rfl<|Kr hm rfl (Qw rfl) (fun I hm=>?_) (fun I hm=>?_)
     · refine qn 7 rfl ?_
       refine qn 2 rfl<|Qi<|Zo ?_
       exact⟨rfl,false,Qh,hm,Xi⟩
     refine qv rfl (Qg Sy rfl)<|qv rfl (Ql (v:=vp0_39) Yo rfl i rfl) ?_
     have J:=(((f.gr Y1).md M3 (Qm u)).kz K4)
     refine qv rfl (Zx (l:=p0.Data) (c:=Xx) Tryz.underlying54 rfl J)<|qv rfl (Dp (a:=(p0.Data.length:Int)) (b:=256) rfl rfl)<|qm rfl<|Zm hm rfl (Qw rfl) (fun K hm=>?_) (fun K hm=>?_)
     · refine qn 3 rfl<|Qi<|Zo ?_
       exact⟨rfl,a1,Qh,hm,Xi⟩
     refine qn 3 rfl<|Qi<|Zo ?_
     exact⟨rfl,false,Qh,hm,Xi⟩
   refine qg 39 rfl<|qv rfl (Qg La rfl)<|qv rfl (Ql (v:=.int .i64 p0.Epoch) Xm rfl i rfl) ?_
   obtain⟨x3,L,hm⟩:=Qd hm
   refine qe rfl (eC Sk rfl (Sr L)) ?_
   rintro _ w6 ⟨rfl,G6⟩
   have X:=G6.size
   refine Bz hm rfl (Qw rfl) (fun c3 hm=>?_) (fun c3 hm=>?_)
   · refine qn 7 rfl ?_
     refine qn 7 rfl ?_
     refine qn 7 rfl ?_
     refine qn 7 rfl ?_
     refine qn 7 rfl ?_
     refine Qi<|Zo ?_
     exact⟨rfl,false,Qh,hm,(Xi.gr G6)⟩
   refine qv rfl (Qg Ii rfl) ?_
   have n:=(i.gr G6)
   refine qv rfl (Ql (v:=bv p0.Low) Zj rfl n rfl)<|qv rfl (Pb (p:=p0.Low) (q:=0#8) rfl rfl)<|qm rfl<|Kr hm rfl (Qw rfl) (fun c4 hm=>?_) (fun c4 hm=>?_)
   · refine qn 7 rfl ?_
     refine qn 7 rfl ?_
     refine qn 7 rfl ?_
     refine qn 7 rfl ?_
     refine qn 2 rfl<|Qi<|Zo ?_
     exact⟨rfl,false,Qh,hm,(Xi.gr G6)⟩
   refine qv rfl (Qg Qcf rfl)<|qv rfl (Ql (v:=wv p0.Number) Zh rfl n rfl)<|qv rfl (Ed (c:=p0.Number) (d:=0#64) rfl rfl)<|qm rfl<|Kr hm rfl (Qw rfl) (fun c5 hm=>?_) (fun c5 hm=>?_)
   · refine qn 7 rfl ?_
     refine qn 7 rfl ?_
     refine qn 7 rfl ?_
     refine qn 4 rfl<|Qi<|Zo ?_
     exact⟨rfl,false,Qh,hm,(Xi.gr G6)⟩
   refine qv rfl (Qg Sy rfl)<|qv rfl (Ql (v:=vp0_39) Yo rfl n rfl) ?_
   have M:=((((f.gr Y1).md M3 (Qm u)).kz K4).gr G6)
   refine qv rfl (Zx (l:=p0.Data) (c:=Xx) Tryz.underlying54 rfl M)<|qv rfl (Kw (a:=(p0.Data.length:Int)) (b:=0) rfl rfl)<|qm rfl<|Kr hm rfl (Qw rfl) (fun c6 hm=>?_) (fun c6 hm=>?_)
   · refine qn 7 rfl ?_
     refine qn 7 rfl ?_
     refine qn 5 rfl<|Qi<|Zo ?_
     exact⟨rfl,false,Qh,hm,(Xi.gr G6)⟩
   refine qv rfl (Qg Wq rfl) ?_
   have o:=((g.kz K4).gr G6)
   refine qv rfl (Ql (v:=vp0_2) Wh rfl o rfl) ?_
   have z:=(((B8.md M3 (Qm s)).kz K4).gr G6)
   refine qv rfl (Zx (l:=p0.Head.Items) (c:=Zc.cs) Tryz.underlying50 rfl z)<|qv rfl (Dp (a:=(p0.Head.Items.length:Int)) (b:=64) rfl rfl)<|qm rfl<|Kr hm rfl (Qw rfl) (fun c7 hm=>?_) (fun c7 hm=>?_)
   · refine qn 7 rfl ?_
     refine qn 6 rfl<|Qi ?_
     refine Zo ?_
     exact⟨rfl,false,Qh,hm,(Xi.gr G6)⟩
   refine qv rfl (Qg Yk rfl)<|qv rfl (Ql (v:=vp0_4) Yi rfl o rfl) ?_
   have N:=(((B9.md M3 (Qm t)).kz K4).gr G6)
   refine qv rfl (Zx (l:=p0.Head.Points) (c:=Qx.cs) Tryz.underlying51 rfl N)<|qv rfl (Dp (a:=(p0.Head.Points.length:Int)) (b:=8) rfl rfl)<|qm rfl<|Kr hm rfl (Qw rfl) (fun c8 hm=>?_) (fun c8 hm=>?_)
   · refine qn 7 rfl ?_
     refine Qi<|Zo ?_
     exact⟨rfl,false,Qh,hm,(Xi.gr G6)⟩
   refine qv rfl (Qg Wq rfl)<|qv rfl (Ql (v:=vp0_2) Wh rfl o rfl)<|qm rfl ?_
   obtain⟨x4,O,hm⟩:=Qd hm
   refine qe rfl (eC Qk3 rfl (Qv6 O z)) ?_
   rintro _ w7 ⟨rfl,G7⟩
   have Y:=G7.size
   refine qv rfl (Jj rfl)<|qn 2 rfl<|Qi<|Zo ?_
   exact⟨rfl,(!x4),Qh,hm,((Xi.gr G6).gr G7)⟩
 clear hm;rintro a2 w5 ⟨hm,K5⟩
 have Z:=K5.size
 unfold Pq at hm
 refine Qj<|qs 2 rfl<|qm rfl<|qv rfl (Jj rfl)<|Qa<|Zw hm rfl (fun c1 hm=>?_) (fun c1 hm=>?_)
 · refine qs 1 rfl<|qm rfl<|qb ?_
   have P:=(y.kz K5)
   cases hm
   exact⟨_,_,rfl,Xj rfl (Qn rfl),rfl,P⟩
 refine qu<|qs 1 rfl<|qm rfl<|Qa<|Qs ?_
 have Q:=(y.kz K5)
 cases hm
 exact⟨_,_,rfl,Xj rfl (Qn rfl),rfl,Q⟩
theorem Qv3 {p0 vp0 zp0 gp0 op0 r}(hm:Qi9 p0=some r){w:World}(a:Rd w zp0 gp0 op0 18 vp0 (p0.map Zr.cs)):
 Calls Tryz.prog 74 [vp0].toArray w fun e w'=>∃ v,e=.returned v∧(∃ ur0_s zr0_s gr0_s,v=ur0_s∧Qe w' zr0_s gr0_s 120 18 ur0_s (r.map Zr.cs)∧Xk (zr0_s=0∨w.heap.size≤gr0_s)∧Gr w w'):=by
 have t:=a.lth
 unfold Qi9 at hm
 refine Xu 8 Tryz.func74 rfl rfl rfl<|qs 1 rfl<|qm rfl<|Qa<|Qj<|Qj ?_
 refine qg 2 rfl<|qm rfl ?_
 rcases Qi1 a with⟨g,b,h⟩|⟨u,y,g,b⟩
 · replace hm:(some [])=some r:=by rw[h] at hm;exact hm
   refine qv rfl (Ec Tryz.underlying63 rfl b)<|Qa<|Td rfl<|qs 1 rfl<|qm rfl<|Qa ?_
   refine Qs<|Zb ?_
   cases hm
   exact⟨_,_,rfl,Xj rfl (Qn rfl),(.slice none 0 0),0,0,rfl,(Za _ 0 120 18),⟨.inl rfl⟩,(Gr.refl w)⟩
 skip
 refine qv rfl (Ec Tryz.underlying63 rfl b)<|Qa<|Gi rfl<|qu<|qs 4 rfl ?_
 refine qe rfl (Ko ([]:List Zr) Zr.cs Qow rfl rfl (Ks rfl) rfl rfl rfl) ?_
 rintro z w1 ⟨i,s,d,G1⟩
 have z3:=G1.size
 have B:=d.lth
 refine qm rfl ?_
 have B5:=(a.gr G1)
 obtain⟨l1,j,hm⟩:=Qd hm
 refine qe rfl (Wo (l:=([]:List Zr)) (m:=p0) (c:=Zr.cs) Qj1 rfl rfl d B5 j (by decide)) ?_
 rintro k w2 ⟨n,o,p,f,C,q⟩
 have z6:=f.size
 refine qm rfl<|Qa<|Qs ?_
 have X7:=(((Gr.refl w).trans G1).ka f (Qc ((.inr Qb):1=0∨w.heap.size≤i)))
 cases hm
 exact⟨_,_,rfl,Xj rfl (Qn rfl),k,n,o,rfl,p,⟨(Yp (A:=(fun x=>w.heap.size≤x)) q (.inr Qb))⟩,X7⟩
theorem Ql3 {p0 p1 p2 vp1_1 zp1_1 gp1_1 op1_1 vp2_0 zp2_0 gp2_0 op2_0 vp2_2 zp2_2 gp2_2 op2_2 r}(hm:Qg2 p0 p1 p2=some r){w:World}(z:Rd w zp1_1 gp1_1 op1_1 18 vp1_1 (p1.Labels.map Zr.cs))(A:Rd w zp2_0 gp2_0 op2_0 18 vp2_0 (p2.Items.map Zc.cs))(B:Rd w zp2_2 gp2_2 op2_2 2 vp2_2 (p2.Points.map Qx.cs)):
 Calls Tryz.prog 16 [.agg (Xn.cs p0).toArray,.agg (Xt.cs p1 vp1_1).toArray,.agg (Qq.cs p2 vp2_0 vp2_2).toArray].toArray w fun e w'=>∃ v,e=.returned v∧(v=.tuple [kv r.1,.int .i64 r.2].toArray∧Gr w w'):=by
 have u:=z.lth
 have x:=A.lth
 have y:=B.lth
 unfold Qg2 at hm
 refine Xu 27 Tryz.func16 rfl rfl rfl<|qs 5 rfl<|qe rfl (Xp (cs:=Xn.cs p0) rfl rfl) ?_
 rintro _ w1 ⟨b1,rfl,bm,ab,G1⟩
 have z4:=G1.size
 have bK:=ab.lt
 refine qe rfl (Xp (cs:=Xt.cs p1 vp1_1) rfl rfl) ?_
 rintro _ w2 ⟨b2,rfl,bn,O,G2⟩
 have z6:=G2.size
 have bL:=O.lt
 refine qe rfl (Xp (cs:=Qq.cs p2 vp2_0 vp2_2) rfl rfl) ?_
 rintro _ w3 ⟨b3,rfl,bo,P,G3⟩
 have z8:=G3.size
 have bM:=P.lt
 refine qe rfl (Qz (cs:=kb k0) Jq rfl) ?_
 rintro _ w4 ⟨b4,rfl,bp,C,G4⟩
 have bN:=G4.size
 have bq:=C.lt
 refine qm rfl<|qd 8 rfl ?_
 have Y1:=Gr.trans (Gr.trans G2 G3) G4
 have Q:=(ab.gr Y1)
 refine qv rfl (Qu Jr rfl Q rfl)<|Lr 33 Tryz.func51 rfl rfl rfl Qba rfl rfl rfl rfl rfl<|qs 3 rfl<|qe rfl (Xp (cs:=Xn.cs p0) rfl rfl) ?_
 rintro _ w5 ⟨b5,rfl,br,R,G5⟩
 have bO:=G5.size
 have bs:=R.lt
 refine qe rfl (Qz (cs:=[.nilFunc,.nilFunc,.nilFunc,.nilFunc]) Vt rfl) ?_
 rintro _ w6 ⟨b6,rfl,bu,E,G6⟩
 have bP:=G6.size
 have bw:=E.lt
 refine qm rfl<|qd 3 rfl<|qv rfl (Zk (cs:=[.func (.func 116) #[] #[],.func (.func 117) #[] #[],.func (.func 118) #[] #[],.func (.func 119) #[] #[]]) Hr rfl rfl)<|qe rfl (Qz (cs:=[.nilFunc,.nilFunc,.nilFunc,.nilFunc]) Vt rfl) ?_
 rintro _ w7 ⟨b7,rfl,bx,ac,G7⟩
 have bQ:=G7.size
 have bz:=ac.lt
 refine qe rfl (Qr Zn rfl rfl rfl ac rfl rfl) ?_
 rintro _ w8 ⟨S,M8⟩
 have bR:=M8.size
 refine qd 8 rfl<|qv rfl (Zk (cs:=[.nilFunc,.nilFunc,.nilFunc,.nilFunc]) Hr rfl rfl)<|qv rfl (Jm (vs:=[.func (.func 116) #[] #[],.func (.func 117) #[] #[],.func (.func 118) #[] #[],.func (.func 119) #[] #[]]) Zn rfl S rfl rfl)<|qv rfl (Jm (vs:=[.func (.func 116) #[] #[],.func (.func 117) #[] #[],.func (.func 118) #[] #[],.func (.func 119) #[] #[]]) Zn rfl S rfl rfl)<|qv rfl (Jm (vs:=[.func (.func 116) #[] #[],.func (.func 117) #[] #[],.func (.func 118) #[] #[],.func (.func 119) #[] #[]]) Zn rfl S rfl rfl) ?_
 refine qv rfl (Zk (cs:=[.func (.func 99) #[] #[],.func (.func 120) #[] #[],.func (.func 121) #[] #[],.func (.func 122) #[] #[]]) Hr rfl rfl)<|qv rfl (Ea (cs:=[.nilFunc,.nilFunc,.nilFunc,.nilFunc,.func (.func 116) #[] #[],.func (.func 117) #[] #[],.func (.func 118) #[] #[],.func (.func 119) #[] #[],.func (.func 116) #[] #[],.func (.func 117) #[] #[],.func (.func 118) #[] #[],.func (.func 119) #[] #[],.func (.func 116) #[] #[],.func (.func 117) #[] #[],.func (.func 118) #[] #[],.func (.func 119) #[] #[],.func (.func 99) #[] #[],.func (.func 120) #[] #[],.func (.func 121) #[] #[],.func (.func 122) #[] #[]]) Qa1 rfl rfl)<|qe rfl (Qz (cs:=[.nilFunc,.nilFunc,.nilFunc,.nilFunc,.nilFunc,.nilFunc,.nilFunc,.nilFunc,.nilFunc,.nilFunc,.nilFunc,.nilFunc,.nilFunc,.nilFunc,.nilFunc,.nilFunc,.nilFunc,.nilFunc,.nilFunc,.nilFunc]) Ov rfl) ?_
 rintro _ w9 ⟨b9,rfl,bA,ad,G9⟩
 have bS:=G9.size
 have bB:=ad.lt
 refine qe rfl (Qr Qa0 rfl rfl rfl ad rfl rfl) ?_
 rintro _ aA ⟨I,d⟩
 have bT:=d.size
 refine Qa<|Qj ?_
 have Y2:=Gr.trans (Gr.trans (Gr.trans (Gr.trans G1 Y1) G5) G6) G7
 have D:=(((((Gr.refl w).trans Y2).md M8).trans G9).md d)
 refine qj (β:=Bool) (rg 14 9) (fun a1=>[(22,.bool a1)]) (fun a1 wr=>(Qbn p0 p1 p2 a1=some r)∧Kz [] aA wr) ?_ ?_
 · refine qg 9 rfl<|qv rfl (Qg Hj rfl) ?_
   have Y3:=Gr.trans G6 G7
   have ae:=((((R.gr Y3).md M8).gr G9).md d)
   refine qv rfl (Ql (v:=bv p0.Kind) Zj rfl ae rfl)<|qv rfl (Ee (p:=p0.Kind) (q:=1#8) rfl rfl)<|Zm hm rfl (Qw rfl) (fun c6 hm=>?_) (fun c6 hm=>?_)
   · refine qn 5 rfl<|Qi ?_
     exact⟨rfl,true,Qh,hm,Xi⟩
   refine qv rfl (Qg Hj rfl)<|qv rfl (Ql (v:=bv p0.Kind) Zj rfl ae rfl)<|qv rfl (Oj Po rfl)<|qv rfl (Vd (a:=Xr p0.Kind) (b:=5) rfl rfl)<|qm rfl<|Qi ?_
   exact⟨rfl,(decide ((5:Int)≤Xr p0.Kind)),Qh,hm,Xi⟩
 clear hm;rintro a1 bU ⟨hm,c⟩
 have bV:=c.size
 unfold Qbn at hm
 refine Zw hm rfl (fun c1 hm=>?_) (fun c1 hm=>?_)
 · refine qs 3 rfl<|qv rfl (Zk (cs:=[.nilFunc,.nilFunc,.nilFunc,.nilFunc]) Hr rfl rfl) ?_
   have aB:=(((((E.gr G7).md M8).gr G9).md d).kz c)
   refine qe rfl (Qr Zn rfl rfl rfl aB rfl rfl) ?_
   rintro _ bW ⟨af,T⟩
   have bX:=T.size
   refine qm rfl<|qb<|⟨_,_,rfl,Xy rfl (Zf Zn rfl af rfl) (Qn rfl),?_⟩
   refine qn 3 rfl<|qe rfl (Qz (cs:=[.nilFunc,.nilFunc,.nilFunc,.nilFunc]) Vt rfl) ?_
   rintro _ bY ⟨bZ,rfl,aC,J,U⟩
   have b0:=U.size
   have bC:=J.lt
   refine qe rfl (Qr Zn rfl rfl rfl J rfl rfl) ?_
   rintro _ b8 ⟨bD,V⟩
   have ca:=V.size
   refine qm rfl<|Qa<|Qj<|qs 2 rfl<|qm rfl<|qv rfl (Zp (a:=2) (b:=0) rfl rfl) ?_
   refine Qa<|Td rfl<|qs 4 rfl<|qv rfl (Ho Hh)<|qm rfl ?_
   have Y4:=Gr.trans (Gr.trans G5 G6) G7
   have aD:=((((((((C.gr Y4).md M8).gr G9).md d).kz c).md T).gr U).md V)
   refine qe rfl (Qr Qy rfl rfl rfl aD rfl rfl) ?_
   rintro _ cb ⟨ag,ah⟩
   have cc:=ah.size
   refine qm rfl<|qb ?_
   have aE:=(((((D.kz c).md T).trans U).md V).md ah)
   cases hm
   exact⟨_,_,rfl,Xy rfl (Zf Qy rfl ag rfl) (Qn rfl),rfl,aE⟩
 refine qu<|qs 6 rfl<|qv rfl (Qg Hj rfl) ?_
 have Y5:=Gr.trans G6 G7
 have W:=(((((R.gr Y5).md M8).gr G9).md d).kz c)
 refine qv rfl (Ql (v:=bv p0.Kind) Zj rfl W rfl) ?_
 by_cases c2:(Xr p0.Kind=1∨Xr p0.Kind=2∨Xr p0.Kind=3)
 · replace hm:=Li c2 hm
   refine qv rfl (Fp Tryz.underlying229 (Zn).siz rfl rfl (by omega)) ?_
   have aF:=(I.kz c)
   refine qv rfl (Jm (vs:=[.func (.func 116) #[] #[],.func (.func 117) #[] #[],.func (.func 118) #[] #[],.func (.func 119) #[] #[]]) Zn rfl aF (by rcases c2 with h|h|h<;>rw[h]<;>rfl) rfl)<|qe rfl (Qz (cs:=[.nilFunc,.nilFunc,.nilFunc,.nilFunc]) Vt rfl) ?_
   rintro _ cd ⟨ce,rfl,aG,K,f⟩
   have cf:=f.size
   have bE:=K.lt
   refine qe rfl (Qr Zn rfl rfl rfl K rfl rfl) ?_
   rintro _ cg ⟨ai,g⟩
   have ch:=g.size
   refine Qa<|Qj<|dw [([b6])] [] (.leaf [(0,10),(1,10),(2,10),(3,10),(4,0),(5,0),(6,10)]) ?_
   intro aH X bF
   refine Xo ?_
   have aj:=(ai.gr X)
   refine dh 0 rfl rfl (fun w hS=>Jm (vs:=[.func (.func 116) #[] #[],.func (.func 117) #[] #[],.func (.func 118) #[] #[],.func (.func 119) #[] #[]]) Zn rfl (Bx.kp aj hS) rfl rfl)<|dh 0 rfl rfl (fun w hS=>Qg Su rfl)<|dh 0 rfl rfl (fun w hS=>Ql (v:=.func (.func 116) #[] #[]) Lo rfl (Bx.kp aj hS) rfl) ?_
   have aI:=(((W.gr f).md g).gr X)
   refine dh 0 rfl rfl (fun w hS=>Qu Jr rfl (Bx.kp aI hS) rfl) ?_
   obtain⟨x2,aJ,hm⟩:=Qd hm
   refine qz [] rfl (Vk Ae rfl rfl (Et aJ)) ⟨fun _=>Qb,trivial⟩ ?_
   rintro _ ci ⟨rfl,F⟩
   have cj:=F.size
   refine kG F ?_
   have Y6:=Gr.trans X F
   have aK:=((((((((E.gr G7).md M8).gr G9).md d).kz c).gr f).md g).gr Y6)
   refine qz [(1,b6)] rfl (Qr Zn rfl rfl rfl aK rfl rfl) ⟨fun _=>Qb,trivial⟩ ?_
   rintro _ ck ⟨ak,i⟩
   have cl:=i.size
   refine kM i ?_
   have aL:=(((Kp.refl ([b6]) aH).gr F).md i)
   refine dn 0 rfl rfl aL<|Qa<|Qs<|⟨_,_,rfl,Xy rfl (Zf Zn rfl ak rfl) (Qn rfl),?_⟩
   refine qn 3 rfl<|qe rfl (Qz (cs:=[.nilFunc,.nilFunc,.nilFunc,.nilFunc]) Vt rfl) ?_
   rintro _ cm ⟨cn,rfl,aM,L,m⟩
   have co:=m.size
   have bG:=L.lt
   refine qe rfl (Qr Zn rfl rfl rfl L rfl rfl) ?_
   rintro _ cp ⟨al,n⟩
   have cq:=n.size
   refine qm rfl<|Qa<|Qj<|qs 2 rfl<|qm rfl<|qv rfl (Zp (a:=x2) (b:=0) rfl rfl) ?_
   refine Qa<|Zv hm rfl (fun c3 hm=>?_) (fun c3 hm=>?_)
   · refine qs 4 rfl<|qv rfl (Ho Hh)<|qm rfl ?_
     have Y7:=Gr.trans G5 Y5
     have aN:=(((((((((((C.gr Y7).md M8).gr G9).md d).kz c).gr f).md g).gr Y6).md i).gr m).md n)
     refine qe rfl (Qr Qy rfl rfl rfl aN rfl rfl) ?_
     rintro _ cr ⟨am,an⟩
     have ct:=an.size
     refine qm rfl<|qb ?_
     have aO:=((((((((D.kz c).trans f).md g).trans Y6).md i).trans m).md n).md an)
     cases hm
     exact⟨_,_,rfl,Xy rfl (Zf Qy rfl am rfl) (Qn rfl),rfl,aO⟩
   refine qu<|qs 10 rfl<|qv rfl (Qg Qli rfl)<|qv rfl (Ql (v:=.func (.func 118) #[] #[]) Qhj rfl al rfl) ?_
   have Y8:=Gr.trans G5 Y5
   have aP:=(((((((((((Q.gr Y8).md M8).gr G9).md d).kz c).gr f).md g).gr Y6).md i).gr m).md n)
   refine qv rfl (Qu Jr rfl aP rfl) ?_
   have Y9:=Gr.trans (Gr.trans G3 G4) Y8
   have aQ:=(((((((((((O.gr Y9).md M8).gr G9).md d).kz c).gr f).md g).gr Y6).md i).gr m).md n)
   refine qv rfl (Qu Vf rfl aQ rfl) ?_
   have aR:=Gr.trans G4 Y8
   have aS:=(((((((((((P.gr aR).md M8).gr G9).md d).kz c).gr f).md g).gr Y6).md i).gr m).md n)
   refine qv rfl (Qu Jw rfl aS rfl) ?_
   have aT:=(((((((((((z.gr Y2).md M8 (Qm u)).gr G9).md d (Qm u)).kz c).gr f).md g (Qm u)).gr Y6).md i (Qm u)).gr m).md n (Qm u))
   have aU:=(((((((((((A.gr Y2).md M8 (Qm x)).gr G9).md d (Qm x)).kz c).gr f).md g (Qm x)).gr Y6).md i (Qm x)).gr m).md n (Qm x))
   have aV:=(((((((((((B.gr Y2).md M8 (Qm y)).gr G9).md d (Qm y)).kz c).gr f).md g (Qm y)).gr Y6).md i (Qm y)).gr m).md n (Qm y))
   obtain⟨x3,aW,hm⟩:=Qd hm
   refine qe rfl (Vk Qq1 rfl rfl (Qpc aW aT aU aV)) ?_
   rintro _ cu ⟨rfl,Y⟩
   have cv:=Y.size
   refine qn 2 rfl ?_
   have aX:=((((((((((((C.gr Y8).md M8).gr G9).md d).kz c).gr f).md g).gr Y6).md i).gr m).md n).gr Y)
   refine qe rfl (Qr Qy rfl rfl rfl aX rfl rfl) ?_
   rintro _ cw ⟨ao,ap⟩
   have cx:=ap.size
   refine qm rfl<|Qa<|Qs ?_
   have aY:=(((((((((D.kz c).trans f).md g).trans Y6).md i).trans m).md n).trans Y).md ap)
   cases hm
   exact⟨_,_,rfl,Xy rfl (Zf Qy rfl ao rfl) (Qn rfl),rfl,aY⟩
 replace hm:=Lh c2 hm
 by_cases c4:(Xr p0.Kind=4)
 · replace hm:=Li c4 hm
   refine qv rfl (Fp Tryz.underlying229 (Zn).siz rfl rfl (by omega)) ?_
   have aZ:=(I.kz c)
   refine qv rfl (Jm (vs:=[.func (.func 99) #[] #[],.func (.func 120) #[] #[],.func (.func 121) #[] #[],.func (.func 122) #[] #[]]) Zn rfl aZ (by rw[c4];rfl) rfl)<|qe rfl (Qz (cs:=[.nilFunc,.nilFunc,.nilFunc,.nilFunc]) Vt rfl) ?_
   rintro _ cy ⟨cz,rfl,a0,M,j⟩
   have cA:=j.size
   have bH:=M.lt
   refine qe rfl (Qr Zn rfl rfl rfl M rfl rfl) ?_
   rintro _ cB ⟨aq,k⟩
   have cC:=k.size
   refine Qa<|Qj<|dw [([b6])] [] (.leaf [(0,10),(1,10),(2,10),(3,10),(4,0),(5,0),(6,10)]) ?_
   intro a2 Z bI
   refine Xo ?_
   have ar:=(aq.gr Z)
   refine dh 0 rfl rfl (fun w hS=>Jm (vs:=[.func (.func 99) #[] #[],.func (.func 120) #[] #[],.func (.func 121) #[] #[],.func (.func 122) #[] #[]]) Zn rfl (Bx.kp ar hS) rfl rfl)<|dh 0 rfl rfl (fun w hS=>Qg Su rfl)<|dh 0 rfl rfl (fun w hS=>Ql (v:=.func (.func 99) #[] #[]) Lo rfl (Bx.kp ar hS) rfl) ?_
   have a3:=(((W.gr j).md k).gr Z)
   refine dh 0 rfl rfl (fun w hS=>Qu Jr rfl (Bx.kp a3 hS) rfl) ?_
   obtain⟨x4,a4,hm⟩:=Qd hm
   refine qz [] rfl (Vk Qbc rfl rfl (Qd0 a4)) ⟨fun _=>Qb,trivial⟩ ?_
   rintro _ cD ⟨rfl,G⟩
   have cE:=G.size
   refine kG G ?_
   have o:=Gr.trans Z G
   have a5:=((((((((E.gr G7).md M8).gr G9).md d).kz c).gr j).md k).gr o)
   refine qz [(1,b6)] rfl (Qr Zn rfl rfl rfl a5 rfl rfl) ⟨fun _=>Qb,trivial⟩ ?_
   rintro _ cF ⟨au,l⟩
   have cG:=l.size
   refine kM l ?_
   have a6:=(((Kp.refl ([b6]) a2).gr G).md l)
   refine dn 0 rfl rfl a6<|Qa<|Qs<|⟨_,_,rfl,Xy rfl (Zf Zn rfl au rfl) (Qn rfl),?_⟩
   refine qn 3 rfl<|qe rfl (Qz (cs:=[.nilFunc,.nilFunc,.nilFunc,.nilFunc]) Vt rfl) ?_
   rintro _ cH ⟨cI,rfl,a7,N,s⟩
   have cJ:=s.size
   have bJ:=N.lt
   refine qe rfl (Qr Zn rfl rfl rfl N rfl rfl) ?_
   rintro _ cK ⟨av,t⟩
   have cL:=t.size
   refine qm rfl<|Qa<|Qj<|qs 2 rfl<|qm rfl<|qv rfl (Zp (a:=x4) (b:=0) rfl rfl) ?_
   refine Qa<|Zv hm rfl (fun c5 hm=>?_) (fun c5 hm=>?_)
   · refine qs 4 rfl<|qv rfl (Ho Hh)<|qm rfl ?_
     have a8:=Gr.trans G5 Y5
     have a9:=(((((((((((C.gr a8).md M8).gr G9).md d).kz c).gr j).md k).gr o).md l).gr s).md t)
     refine qe rfl (Qr Qy rfl rfl rfl a9 rfl rfl) ?_
     rintro _ cM ⟨aw,ax⟩
     have cN:=ax.size
     refine qm rfl<|qb ?_
     have ba:=((((((((D.kz c).trans j).md k).trans o).md l).trans s).md t).md ax)
     cases hm
     exact⟨_,_,rfl,Xy rfl (Zf Qy rfl aw rfl) (Qn rfl),rfl,ba⟩
   refine qu<|qs 10 rfl<|qv rfl (Qg Qli rfl)<|qv rfl (Ql (v:=.func (.func 121) #[] #[]) Qhj rfl av rfl) ?_
   have H:=Gr.trans G5 Y5
   have bb:=(((((((((((Q.gr H).md M8).gr G9).md d).kz c).gr j).md k).gr o).md l).gr s).md t)
   refine qv rfl (Qu Jr rfl bb rfl) ?_
   have bc:=Gr.trans (Gr.trans G3 G4) H
   have bd:=(((((((((((O.gr bc).md M8).gr G9).md d).kz c).gr j).md k).gr o).md l).gr s).md t)
   refine qv rfl (Qu Vf rfl bd rfl) ?_
   have be:=Gr.trans G4 H
   have bf:=(((((((((((P.gr be).md M8).gr G9).md d).kz c).gr j).md k).gr o).md l).gr s).md t)
   refine qv rfl (Qu Jw rfl bf rfl) ?_
   have bg:=(((((((((((z.gr Y2).md M8 (Qm u)).gr G9).md d (Qm u)).kz c).gr j).md k (Qm u)).gr o).md l (Qm u)).gr s).md t (Qm u))
   have bh:=(((((((((((A.gr Y2).md M8 (Qm x)).gr G9).md d (Qm x)).kz c).gr j).md k (Qm x)).gr o).md l (Qm x)).gr s).md t (Qm x))
   have bi:=(((((((((((B.gr Y2).md M8 (Qm y)).gr G9).md d (Qm y)).kz c).gr j).md k (Qm y)).gr o).md l (Qm y)).gr s).md t (Qm y))
   obtain⟨x5,bj,hm⟩:=Qd hm
   refine qe rfl (Vk Qq4 rfl rfl (Qu6 bj bg bh bi)) ?_
   rintro _ cO ⟨rfl,aa⟩
   have cP:=aa.size
   refine qn 2 rfl ?_
   have bk:=((((((((((((C.gr H).md M8).gr G9).md d).kz c).gr j).md k).gr o).md l).gr s).md t).gr aa)
   refine qe rfl (Qr Qy rfl rfl rfl bk rfl rfl) ?_
   rintro _ cQ ⟨ay,az⟩
   have cR:=az.size
   refine qm rfl<|Qa<|Qs ?_
   have bl:=(((((((((D.kz c).trans j).md k).trans o).md l).trans s).md t).trans aa).md az)
   cases hm
   exact⟨_,_,rfl,Xy rfl (Zf Qy rfl ay rfl) (Qn rfl),rfl,bl⟩
 replace hm:=Lh c4 hm
 cases hm
theorem Qrr {p0 p1 p2 p3 p4 bp2 vp2_1 zp2_1 gp2_1 op2_1 vp3_2 zp3_2 gp3_2 op3_2 vp3_4 zp3_4 gp3_4 op3_4 vp3_39 zp3_39 gp3_39 op3_39 r}(hm:Qg8 p0 p1 p2 p3 p4=some r){w:World}(hbp2:Bx w bp2 105 (Xl.cs p2 vp2_1))(j:Rd w zp2_1 gp2_1 op2_1 18 vp2_1 (p2.Secret.Labels.map Zr.cs))(d:Rd w zp3_2 gp3_2 op3_2 18 vp3_2 (p3.Head.Items.map Zc.cs))(f:Rd w zp3_4 gp3_4 op3_4 2 vp3_4 (p3.Head.Points.map Qx.cs))(k:Rd w zp3_39 gp3_39 op3_39 1 vp3_39 (p3.Data.map Xx))(aV:Xk (zp2_1=0∨gp2_1≠bp2))(aW:Xk (zp3_2=0∨gp3_2≠bp2))(aX:Xk (zp3_4=0∨gp3_4≠bp2))(aY:Xk (zp3_39=0∨gp3_39≠bp2)):
 Calls Tryz.prog 75 [.agg (Xn.cs p0).toArray,.agg (Zi.cs p1).toArray,.pointer (some ⟨bp2,0,none⟩),.agg (Qo.cs p3 vp3_2 vp3_4 vp3_39).toArray,.int .i64 p4].toArray w fun e w'=>∃ v,e=.returned v∧(v=.int .i64 r.1∧Bx w' bp2 105 (Xl.cs r.2 vp2_1)∧Kz [(1,bp2)] w w'):=by
 have aZ:=j.lth
 have a2:=hbp2.lt
 have a3:=d.lth
 have a5:=f.lth
 have a8:=k.lth
 unfold Qg8 at hm
 refine Xu 66 Tryz.func75 rfl rfl rfl<|qs 4 rfl<|qe rfl (Xp (cs:=Xn.cs p0) rfl rfl) ?_
 rintro _ w1 ⟨b1,rfl,aM,J,G1⟩
 have z6:=G1.size
 have a9:=J.lt
 refine qe rfl (Xp (cs:=Zi.cs p1) rfl rfl) ?_
 rintro _ w2 ⟨b2,rfl,aN,K,G2⟩
 have z8:=G2.size
 have ba:=K.lt
 refine qe rfl (Xp (cs:=Qo.cs p3 vp3_2 vp3_4 vp3_39) rfl rfl) ?_
 rintro _ w3 ⟨b3,rfl,aO,L,G3⟩
 have bb:=G3.size
 have aP:=L.lt
 refine qm rfl<|Qa<|Qj<|dw [([])] [] (.leaf [(0,10),(1,10),(2,10),(3,10),(4,10),(5,10),(6,10),(7,10)]) ?_
 intro w4 G4 bc
 refine Xo<|dm 0 rfl rfl<|dh 0 rfl rfl (fun w hS=>Qg La rfl) ?_
 have n:=(L.gr G4)
 refine dh 0 rfl rfl (fun w hS=>Ql (v:=.int .i64 p3.Epoch) Xm rfl (Bx.kp n hS) rfl) ?_
 obtain⟨x1,Y,hm⟩:=Qd hm
 refine dh 0 rfl rfl (fun w hS=>Db (a:=p3.Epoch) (b:=2) rfl rfl Y)<|dh 0 rfl rfl (fun w hS=>Yy rfl rfl)<|dh 0 rfl rfl (fun w hS=>Qg Qgh rfl) ?_
 obtain⟨y2,p,hm⟩:=Qd hm
 refine dh 0 rfl rfl (fun w hS=>Qnx (l:=[p2.Slots.a0,p2.Slots.a1]) (i:=x1) Tryz.underlying103 (Dt).siz rfl rfl p rfl)<|dm 0 rfl rfl<|Qa<|Qj<|qs 6 rfl ?_
 have Y1:=Gr.trans G3 G4
 have Z:=(K.gr Y1)
 refine qv rfl (Qu Ya rfl Z rfl)<|qm rfl<|qv rfl (Qg La rfl)<|qv rfl (Ql (v:=.int .i64 p3.Epoch) Xm rfl n rfl) ?_
 obtain⟨x3,aa,hm⟩:=Qd hm
 refine qe rfl (eC Qkx rfl (Qlb aa)) ?_
 rintro _ w5 ⟨rfl,G5⟩
 have bd:=G5.size
 refine qv rfl (Jj rfl)<|Qa<|Zw hm rfl (fun c1 hm=>?_) (fun c1 hm=>?_)
 · refine qs 1 rfl<|qm rfl<|qb ?_
   have Y2:=Gr.trans (Gr.trans (Gr.trans G1 G2) Y1) G5
   have ab:=(hbp2.gr Y2)
   have ac:=((Kz.refl [(1,bp2)] w).gr Y2)
   cases hm
   exact⟨_,_,rfl,Xj rfl (Qn rfl),rfl,ab,ac⟩
 refine qu<|Qj ?_
 have Y3:=Gr.trans (Gr.trans (Gr.trans G1 G2) Y1) G5
 have M:=((Kz.refl [(1,bp2)] w).gr Y3)
 refine qj (β:=Bool) (rg 27 13) (fun a4=>[(39,.bool a4)]) (fun a4 wr=>(Qc2 p0 p2 p3 x1 a4=some r)∧Kz [] w5 wr) ?_ ?_
 · refine dw [([])] [] (.leaf [(0,10),(1,10),(2,10),(3,10),(4,10),(5,10),(6,10),(7,10),(8,10),(9,10),(10,10),(11,10),(12,10)]) ?_
   intro ad x aQ
   refine Xo<|dm 0 rfl rfl<|dh 0 rfl rfl (fun w hS=>Yy rfl rfl)<|dh 0 rfl rfl (fun w hS=>Qg Ib rfl) ?_
   have N:=((hbp2.gr Y3).gr x)
   refine dh 0 rfl rfl (fun w hS=>Pz (q:=0) (u:=.bool y2.Full) Dm rfl (Qdk (o:=5) (sz:=18) (xs:=[p2.Slots.a0,p2.Slots.a1].map Xw.cs) (m:=2) (cap:=2) (Bx.kp N hS) (Wk _ (fun _=>rfl) (fun _=>rfl)) rfl rfl) p (by first|rfl|omega) rfl)<|Qud hm 0 rfl rfl (Kp.refl ([]) ad) (fun w hS=>Qw rfl) (fun c5 hm=>?_) (fun c5 hm=>?_)
   · refine dx 0 rfl rfl<|dx 0 rfl rfl<|dx 0 rfl rfl<|dx 0 rfl rfl<|dx 0 rfl rfl<|dx 0 rfl rfl<|dx 0 rfl rfl ?_
     refine dm 0 rfl rfl<|Qi ?_
     exact⟨rfl,false,Qh,hm,(Xi.gr x)⟩
   refine dm 0 rfl rfl<|dh 0 rfl rfl (fun w hS=>Yy rfl rfl)<|dh 0 rfl rfl (fun w hS=>Qg Qcb rfl)<|dh 0 rfl rfl (fun w hS=>Pz (q:=1) (u:=.int .i64 y2.Epoch) Xm rfl (Qdk (o:=5) (sz:=18) (xs:=[p2.Slots.a0,p2.Slots.a1].map Xw.cs) (m:=2) (cap:=2) (Bx.kp N hS) (Wk _ (fun _=>rfl) (fun _=>rfl)) rfl rfl) p (by first|rfl|omega) rfl)<|dh 0 rfl rfl (fun w hS=>Qg La rfl) ?_
   have ae:=((n.gr G5).gr x)
   refine dh 0 rfl rfl (fun w hS=>Ql (v:=.int .i64 p3.Epoch) Xm rfl (Bx.kp ae hS) rfl)<|dh 0 rfl rfl (fun w hS=>Vd (a:=y2.Epoch) (b:=p3.Epoch) rfl rfl)<|dm 0 rfl rfl<|Qi ?_
   exact⟨rfl,(decide (p3.Epoch≤y2.Epoch)),Qh,hm,(Xi.gr x)⟩
 clear hm;rintro a4 w6 ⟨hm,K6⟩
 have be:=K6.size
 unfold Qc2 at hm
 refine Zw hm rfl (fun c2 hm=>?_) (fun c2 hm=>?_)
 · refine qs 1 rfl<|qm rfl<|qb ?_
   have af:=((hbp2.gr Y3).kz K6)
   have ag:=(M.kz K6)
   cases hm
   exact⟨_,_,rfl,Xj rfl (Qn rfl),rfl,af,ag⟩
 refine qu ?_
 have H:=(M.kz K6)
 refine qj (β:=W2 × Int × Nat) ([12,13]++rg 40 11) (fun⟨a6,a7,bq5⟩=>[(12,.pointer (some ⟨bq5,0,none⟩)),(13,.int .i64 a7)]) (fun⟨a6,a7,bq5⟩ wr=>(Qg9 p2 p3 x1 a6 a7=some r)∧Bx wr bq5 36 (kb a6)∧w6.heap.size≤bq5∧Kz [] w6 wr) ?_ ?_
 · refine dw [([])] [] (.fork [(0,10),(1,10),(2,10),(3,10),(4,10),(5,10),(6,10)] (.leaf [(7,0),(8,10),(9,10),(10,10),(11,0),(12,0),(13,10)]) (.leaf [(11,0),(7,0),(8,10),(9,10),(10,10),(12,0),(13,10)])) ?_
   intro O g aR
   refine Zt ?_
   have Y4:=Gr.trans (Gr.trans G2 Y1) G5
   have ah:=(((J.gr Y4).kz K6).gr g)
   refine dh 0 rfl rfl (fun w hS=>Qu Jr rfl (Bx.kp ah hS) rfl)<|dm 0 rfl rfl<|dh 0 rfl rfl (fun w hS=>Yy rfl rfl)<|dh 0 rfl rfl (fun w hS=>Qg Ic rfl) ?_
   have ai:=(((hbp2.gr Y3).kz K6).gr g)
   refine dh 0 rfl rfl (fun w hS=>Jm (vs:=Xt.cs p2.Secret vp2_1) Vf rfl (Bx.kp ai hS) rfl rfl)<|dh 0 rfl rfl (fun w hS=>Qg Vu rfl) ?_
   have aj:=(((n.gr G5).kz K6).gr g)
   refine dh 0 rfl rfl (fun w hS=>Jm (vs:=Qq.cs p3.Head vp3_2 vp3_4) Jw rfl (Bx.kp aj hS) rfl rfl)<|Zs ?_ ?_
   · refine Xo ?_
     have ak:=(((j.gr Y3).kz K6).gr g)
     have al:=(((d.gr Y3).kz K6).gr g)
     have am:=(((f.gr Y3).kz K6).gr g)
     obtain⟨x9,an,hm⟩:=Qd hm
     refine qz [] rfl (eC Qk5 rfl (Ql3 an ak al am)) ⟨fun _=>Qb,trivial⟩ ?_
     rintro _ bf ⟨rfl,y⟩
     have bg:=y.size
     refine kG y ?_
     have z:=((Kp.refl ([]) O).gr y)
     refine dn 0 rfl rfl z<|dn 0 rfl rfl z<|dn 0 rfl rfl z<|qz [] rfl (Qz (cs:=kb k0) Jq rfl) ⟨fun _=>Qb,trivial⟩ ?_
     rintro _ bh ⟨P,rfl,ao,F,A⟩
     have bi:=A.size
     have aS:=F.lt
     refine kG A<|qz [(1,P)] rfl (Qr Qy rfl rfl rfl F rfl rfl) ⟨fun _=>Qb,trivial⟩ ?_
     rintro _ bj ⟨Q,B⟩
     have bk:=B.size
     refine kM B ?_
     have ap:=((z.gr A).md B)
     refine dn 0 rfl rfl ap<|Qi ?_
     exact⟨rfl,⟨x9.1,x9.2,P⟩,Qh,hm,Q,(by omega),((((Xi.gr g).gr y).gr A).md B)⟩
   refine Xo<|qz [] rfl (Qz (cs:=kb k0) Jq rfl) ⟨fun _=>Qb,trivial⟩ ?_
   rintro _ bl ⟨R,rfl,aq,G,C⟩
   have bm:=C.size
   have aT:=G.lt
   refine kG C ?_
   have Y5:=Gr.trans g C
   have ar:=(((j.gr Y3).kz K6).gr Y5)
   have au:=(((d.gr Y3).kz K6).gr Y5)
   have av:=(((f.gr Y3).kz K6).gr Y5)
   obtain⟨S,T,hm⟩:=Qd hm
   refine qz [] rfl (eC Qk5 rfl (Ql3 T ar au av)) ⟨fun _=>Qb,trivial⟩ ?_
   rintro _ bn ⟨rfl,s⟩
   have bo:=s.size
   refine kG s ?_
   have D:=(((Kp.refl ([]) O).gr C).gr s)
   refine dn 0 rfl rfl D<|dn 0 rfl rfl D<|dn 0 rfl rfl D ?_
   have aw:=(G.gr s)
   refine qz [(1,R)] rfl (Qr Qy rfl rfl rfl aw rfl rfl) ⟨fun _=>Qb,trivial⟩ ?_
   rintro _ bp ⟨U,E⟩
   have bq:=E.size
   refine kM E ?_
   have ax:=(D.md E)
   refine dn 0 rfl rfl ax<|Qi ?_
   exact⟨rfl,⟨S.1,S.2,R⟩,Qh,hm,U,(by omega),(((Xi.gr Y5).gr s).md E)⟩
 clear hm;rintro⟨a6,a7,bq5⟩ w7 ⟨hm,t,ay,K7⟩
 have br:=K7.size
 have aU:=t.lt
 unfold Qg9 at hm
 refine Qj<|qs 2 rfl<|qm rfl<|qv rfl (Zp (a:=a7) (b:=0) rfl rfl)<|Qa<|Zv hm rfl (fun c3 hm=>?_) (fun c3 hm=>?_)
 · refine qs 2 rfl<|qn 2 rfl<|Qa<|Qs<|Zb ?_
   have az:=(((hbp2.gr Y3).kz K6).kz K7)
   have aA:=(H.kz K7)
   cases hm
   exact⟨_,_,rfl,Xj rfl (Qn rfl),rfl,az,aA⟩
 refine qu<|Qj<|Qj<|dw [([])] [] (.leaf [(0,10),(1,10),(3,10),(4,10),(2,0),(5,10)]) ?_
 intro w8 G8 bs
 refine Xo ?_
 have V:=(t.gr G8)
 refine dh 0 rfl rfl (fun w hS=>Qu Qy rfl (Bx.kp V hS) rfl) ?_
 have I:=((((n.gr G5).kz K6).kz K7).gr G8)
 refine dh 0 rfl rfl (fun w hS=>Qu Zl rfl (Bx.kp I hS) rfl)<|dh 0 rfl rfl (fun w hS=>Qg Na rfl)<|dh 0 rfl rfl (fun w hS=>Jm (vs:=kb p3.Mac) Qy rfl (Bx.kp I hS) rfl rfl) ?_
 have aB:=((((d.gr Y3).kz K6).kz K7).gr G8)
 have aC:=((((f.gr Y3).kz K6).kz K7).gr G8)
 have aD:=((((k.gr Y3).kz K6).kz K7).gr G8)
 obtain⟨x8,aE,hm⟩:=Qd hm
 refine qz [] rfl (eC Qkr rfl (Ql6 aE aB aC aD)) ⟨fun _=>Qb,trivial⟩ ?_
 rintro _ w9 ⟨rfl,G9⟩
 have bu:=G9.size
 refine kG G9 ?_
 have aF:=((Kp.refl ([]) w8).gr G9)
 refine qh 0 rfl rfl aF (fun w hS=>Gj (cf:=kb) (a:=x8) (b:=p3.Mac) Gx rfl rfl rfl rfl (fun h=>Dh h))<|Qa<|Zv hm rfl (fun c4 hm=>?_) (fun c4 hm=>?_)
 · refine qs 1 rfl<|qm rfl<|qb ?_
   have Y6:=Gr.trans G8 G9
   have aG:=((((hbp2.gr Y3).kz K6).kz K7).gr Y6)
   have aH:=((H.kz K7).gr Y6)
   cases hm
   exact⟨_,_,rfl,Xj rfl (Qn rfl),rfl,aG,aH⟩
 refine qu<|qs 7 rfl<|qm rfl<|qv rfl (Qg La rfl) ?_
 have aI:=(I.gr G9)
 refine qv rfl (Ql (v:=.int .i64 p3.Epoch) Xm rfl aI rfl) ?_
 have aJ:=(V.gr G9)
 refine qv rfl (Qu Qy rfl aJ rfl)<|qv rfl (Zk (cs:=Xw.cs (Xw.mk true p3.Epoch a6)) Qeh rfl (Wa rfl rfl rfl (Wa rfl rfl rfl (Wa rfl rfl rfl (by kernel_rfl)))))<|qv rfl (Yy rfl rfl) ?_
 have Y7:=Gr.trans G8 G9
 have aK:=((((hbp2.gr Y3).kz K6).kz K7).gr Y7)
 refine qe rfl (Qse (sz:=18) (o:=5) (q:=0) (l:=[p2.Slots.a0,p2.Slots.a1]) (c:=Xw.cs) (a':=(Xw.mk true p3.Epoch a6)) (vs:=Xw.cs (Xw.mk true p3.Epoch a6)) (cs':=Xl.cs (Xl.mk p2.Secret p2.Ahead (Jg.mk (if x1=0 then(Xw.mk true p3.Epoch a6) else p2.Slots.a0) (if x1=0 then p2.Slots.a1 else(Xw.mk true p3.Epoch a6)))) vp2_1) (Dt).siz rfl rfl rfl rfl rfl aK (Wk _ (fun _=>rfl) (fun _=>rfl)) rfl rfl p (by first|rfl|omega) rfl rfl (Quv p) rfl) ?_
 rintro _ bw ⟨W,X⟩
 have bx:=X.size
 refine qd 1 rfl<|qm rfl<|Qa<|Qs ?_
 have aL:=(((H.kz K7).gr Y7).md X)
 cases hm
 exact⟨_,_,rfl,Xj rfl (Qn rfl),rfl,W,aL⟩
theorem Qrs {p0 p1 p2 p3 vp1_1 zp1_1 gp1_1 op1_1 vp2_2 zp2_2 gp2_2 op2_2 vp2_4 zp2_4 gp2_4 op2_4 vp2_39 zp2_39 gp2_39 op2_39 r}(hm:Qga p0 p1 p2 p3=some r){w:World}(Y:Rd w zp1_1 gp1_1 op1_1 18 vp1_1 (p1.Secret.Labels.map Zr.cs))(n:Rd w zp2_2 gp2_2 op2_2 18 vp2_2 (p2.Head.Items.map Zc.cs))(p:Rd w zp2_4 gp2_4 op2_4 2 vp2_4 (p2.Head.Points.map Qx.cs))(d:Rd w zp2_39 gp2_39 op2_39 1 vp2_39 (p2.Data.map Xx)):
 Calls Tryz.prog 76 [.agg (Zi.cs p0).toArray,.agg (Xl.cs p1 vp1_1).toArray,.agg (Qo.cs p2 vp2_2 vp2_4 vp2_39).toArray,.int .i64 p3].toArray w fun e w'=>∃ v,e=.returned v∧(∃ ur0_s zr0_s gr0_s,v=.tuple [ur0_s,.int .i64 r.2].toArray∧Qe w' zr0_s gr0_s 5 1 ur0_s (r.1.map Xx)∧Xk (zr0_s=0∨w.heap.size≤gr0_s)∧Gr w w'):=by
 have bF:=Y.lth
 have I:=n.lth
 have J:=p.lth
 have t:=d.lth
 unfold Qga at hm
 refine Xu 74 Tryz.func76 rfl rfl rfl<|qs 5 rfl<|qe rfl (Xp (cs:=Zi.cs p0) rfl rfl) ?_
 rintro _ w1 ⟨b1,rfl,bm,al,G1⟩
 have z5:=G1.size
 have bG:=al.lt
 refine qe rfl (Xp (cs:=Xl.cs p1 vp1_1) rfl rfl) ?_
 rintro _ w2 ⟨b2,rfl,bn,am,G2⟩
 have z7:=G2.size
 have bH:=am.lt
 refine qe rfl (Xp (cs:=Qo.cs p2 vp2_2 vp2_4 vp2_39) rfl rfl) ?_
 rintro _ w3 ⟨b3,rfl,bo,K,G3⟩
 have z9:=G3.size
 have bp:=K.lt
 refine qn 2 rfl<|qd 10 rfl ?_
 have Y1:=Gr.trans G2 G3
 have an:=(al.gr Y1)
 refine qv rfl (Qu Ya rfl an rfl)<|qm rfl<|qv rfl (Qg Ii rfl)<|qv rfl (Ql (v:=bv p2.Low) Zj rfl K rfl) ?_
 obtain⟨x1,aN,hm⟩:=Qd hm
 refine qe rfl (eC Qkw rfl (Ql8 aN)) ?_
 rintro _ w4 ⟨rfl,G4⟩
 have bI:=G4.size
 refine qn 5 rfl<|Qa<|Qj ?_
 refine qs 2 rfl<|qm rfl<|qv rfl (Jj rfl)<|Qa<|Zw hm rfl (fun c1 hm=>?_) (fun c1 hm=>?_)
 · refine qs 2 rfl<|qn 2 rfl<|Qa<|Qs<|Zb ?_
   have Y2:=Gr.trans (Gr.trans G1 Y1) G4
   have aO:=((Gr.refl w).trans Y2)
   cases hm
   exact⟨_,_,rfl,Xy rfl (Qn rfl) (Qn rfl),(.slice none 0 0),0,0,rfl,(Za _ 0 5 1),⟨.inl rfl⟩,aO⟩
 refine qu<|qs 8 rfl<|qm rfl<|qv rfl (Qg Pd rfl) ?_
 have ao:=(an.gr G4)
 refine qv rfl (Ql (v:=.int .i64 p0.Epoch) Xm rfl ao rfl)<|qv rfl (Qg Hw rfl)<|qv rfl (Ql (v:=.int .i64 p0.Word) Xm rfl ao rfl) ?_
 obtain⟨x2,aP,hm⟩:=Qd hm
 refine qv rfl (Nj (a:=p0.Epoch) (b:=p0.Word) rfl rfl aP) ?_
 obtain⟨x3,aQ,hm⟩:=Qd hm
 refine qv rfl (Nj (a:=x1.1) (b:=x2) rfl rfl aQ)<|qm rfl<|qd 7 rfl<|qm rfl ?_
 obtain⟨x4,aR,hm⟩:=Qd hm
 refine qv rfl (Db (a:=x3) (b:=2) rfl rfl aR)<|qv rfl (Qg Qgh rfl) ?_
 obtain⟨y5,ap,hm⟩:=Qd hm
 refine qv rfl (Qnx (l:=[p1.Slots.a0,p1.Slots.a1]) (i:=x4) Tryz.underlying103 (Dt).siz rfl rfl ap rfl) ?_
 have Y3:=Gr.trans G3 G4
 have aS:=(am.gr Y3)
 refine qv rfl (He Dt rfl (Qdk (o:=5) (sz:=18) (xs:=[p1.Slots.a0,p1.Slots.a1].map Xw.cs) (m:=2) (cap:=2) aS (Wk _ (fun _=>rfl) (fun _=>rfl)) rfl rfl) ap (by first|rfl|omega))<|qe rfl (Qz (cs:=Xw.cs (Xw.mk false 0 k0)) Qiv rfl) ?_
 rintro _ w5 ⟨b5,rfl,bq,aq,G5⟩
 have bJ:=G5.size
 have br:=aq.lt
 refine qe rfl (Qr Dt rfl rfl rfl aq rfl rfl) ?_
 rintro _ w6 ⟨Z,M6⟩
 have bK:=M6.size
 refine Qa<|Qj ?_
 have Y4:=Gr.trans (Gr.trans (Gr.trans G1 Y1) G4) G5
 have ar:=(((Gr.refl w).trans Y4).md M6)
 refine qj (β:=Bool) (rg 39 9) (fun a6=>[(47,.bool a6)]) (fun a6 wr=>(Qc4 p2 x1 y5 a6=some r)∧Kz [] w6 wr) ?_ ?_
 · refine qg 9 rfl<|qv rfl (Qg Ib rfl)<|qv rfl (Ql (v:=.bool y5.Full) Dm rfl Z rfl)<|qv rfl (Jj rfl)<|Pw hm rfl (Qw rfl) (fun c5 hm=>?_) (fun c5 hm=>?_)
   · refine qn 5 rfl<|Qi ?_
     exact⟨rfl,true,Qh,hm,Xi⟩
   refine qv rfl (Qg Qcb rfl)<|qv rfl (Ql (v:=.int .i64 y5.Epoch) Xm rfl Z rfl)<|qm rfl<|qv rfl (Zp (a:=y5.Epoch) (b:=x3) rfl rfl)<|qm rfl<|Qi ?_
   exact⟨rfl,(decide (y5.Epoch≠x3)),Qh,hm,Xi⟩
 clear hm;rintro a6 w7 ⟨hm,K7⟩
 have bL:=K7.size
 unfold Qc4 at hm
 refine Zw hm rfl (fun c2 hm=>?_) (fun c2 hm=>?_)
 · refine qs 2 rfl<|qn 2 rfl<|Qa<|Qs<|Zb ?_
   have aT:=(ar.kz K7)
   cases hm
   exact⟨_,_,rfl,Xy rfl (Qn rfl) (Qn rfl),(.slice none 0 0),0,0,rfl,(Za _ 0 5 1),⟨.inl rfl⟩,aT⟩
 refine qu<|qs 6 rfl<|qv rfl (Qg Qsh rfl) ?_
 have aU:=(Z.kz K7)
 refine qv rfl (Jm (vs:=kb y5.Key) Qy rfl aU rfl rfl)<|qm rfl ?_
 obtain⟨x7,aV,hm⟩:=Qd hm
 refine qe rfl (eC Qbb rfl (Qbx aV)) ?_
 rintro _ w8 ⟨rfl,G8⟩
 have bM:=G8.size
 refine qe rfl (Qz (cs:=kb k0) Jq rfl) ?_
 rintro _ w9 ⟨b9,rfl,bs,au,G9⟩
 have bN:=G9.size
 have bu:=au.lt
 refine qe rfl (Qr Qy rfl rfl rfl au rfl rfl) ?_
 rintro _ av ⟨U,f⟩
 have bO:=f.size
 refine Qa ?_
 have Y5:=Gr.trans G8 G9
 have aa:=(((ar.kz K7).trans Y5).md f)
 refine qj (β:=W2 × Int × Nat) ([15,16]++rg 52 7) (fun⟨a9,D,bq8⟩=>[(15,.pointer (some ⟨bq8,0,none⟩)),(16,.int .i64 D)]) (fun⟨a9,D,bq8⟩ wr=>(Qgb p2 x7 a9 D=some r)∧Bx wr bq8 36 (kb a9)∧av.heap.size≤bq8∧Kz [] av wr) ?_ ?_
 · refine dw [([])] [] (.fork [(0,10),(1,10)] (.fork [(2,0)] (.leaf [(3,0),(4,10),(5,10),(6,10),(7,0),(8,0),(9,10)]) (.leaf [(7,0),(3,0),(4,10),(5,10),(6,10),(8,0),(9,10)])) (.leaf [(7,0),(2,0),(3,0),(4,10),(5,10),(6,10),(8,0),(9,10)])) ?_
   intro ab k bw
   refine Zt ?_
   have aW:=(U.gr k)
   refine dh 0 rfl rfl (fun w hS=>Qu Qy rfl (Bx.kp aW hS) rfl) ?_
   have Y6:=Gr.trans G4 G5
   have aX:=((((((K.gr Y6).md M6).kz K7).gr Y5).md f).gr k)
   refine dh 0 rfl rfl (fun w hS=>Qu Zl rfl (Bx.kp aX hS) rfl)<|Zs ?_ ?_
   · refine Zt ?_
     have aY:=((((((n.gr Y4).md M6 (Qm I)).kz K7).gr Y5).md f (Qm I)).gr k)
     have aZ:=((((((p.gr Y4).md M6 (Qm J)).kz K7).gr Y5).md f (Qm J)).gr k)
     have a2:=((((((d.gr Y4).md M6 (Qm t)).kz K7).gr Y5).md f (Qm t)).gr k)
     obtain⟨bP,aw,hm⟩:=Qd hm
     refine qz [] rfl (eC Rt rfl (Ba aw aY aZ a2)) ⟨fun _=>Qb,trivial⟩ ?_
     rintro ad bQ ⟨_,ae,af,rfl,c,ag,u⟩
     have bR:=u.size
     have bx:=c.lth
     refine kG u<|Zs ?_ ?_
     · refine Xo ?_
       obtain⟨ax,ay,hm⟩:=Qd hm
       refine qz [] rfl (eC Sl rfl (Sb ay (Qe.rd c))) ⟨fun _=>Qb,trivial⟩ ?_
       rintro _ bS ⟨rfl,L⟩
       have bT:=L.size
       refine kG L ?_
       have M:=(((Kp.refl ([]) ab).gr u).gr L)
       refine dn 0 rfl rfl M<|dn 0 rfl rfl M<|dn 0 rfl rfl M<|qz [] rfl (Qz (cs:=kb k0) Jq rfl) ⟨fun _=>Qb,trivial⟩ ?_
       rintro _ bU ⟨az,rfl,a3,V,N⟩
       have bV:=N.size
       have bz:=V.lt
       refine kG N<|qz [(1,az)] rfl (Qr Qy rfl rfl rfl V rfl rfl) ⟨fun _=>Qb,trivial⟩ ?_
       rintro _ bW ⟨aA,O⟩
       have bX:=O.size
       refine kM O ?_
       have a4:=((M.gr N).md O)
       refine dn 0 rfl rfl a4<|Qi ?_
       exact⟨rfl,⟨ax.1,ax.2,az⟩,Qh,hm,aA,(by omega),(((((Xi.gr k).gr u).gr L).gr N).md O)⟩
     refine Xo<|qz [] rfl (Qz (cs:=kb k0) Jq rfl) ⟨fun _=>Qb,trivial⟩ ?_
     rintro _ bY ⟨aB,rfl,a5,W,E⟩
     have bZ:=E.size
     have bA:=W.lt
     refine kG E ?_
     have a7:=(c.gr E)
     obtain⟨aC,aD,hm⟩:=Qd hm
     refine qz [] rfl (eC Sl rfl (Sb aD (Qe.rd a7))) ⟨fun _=>Qb,trivial⟩ ?_
     rintro _ b0 ⟨rfl,F⟩
     have b4:=F.size
     refine kG F ?_
     have P:=((((Kp.refl ([]) ab).gr u).gr E).gr F)
     refine dn 0 rfl rfl P<|dn 0 rfl rfl P<|dn 0 rfl rfl P ?_
     have a8:=(W.gr F)
     refine qz [(1,aB)] rfl (Qr Qy rfl rfl rfl a8 rfl rfl) ⟨fun _=>Qb,trivial⟩ ?_
     rintro _ b6 ⟨aE,Q⟩
     have b7:=Q.size
     refine kM Q ?_
     have ba:=(P.md Q)
     refine dn 0 rfl rfl ba<|Qi ?_
     exact⟨rfl,⟨aC.1,aC.2,aB⟩,Qh,hm,aE,(by omega),(((((Xi.gr k).gr u).gr E).gr F).md Q)⟩
   refine Xo<|qz [] rfl (Qz (cs:=kb k0) Jq rfl) ⟨fun _=>Qb,trivial⟩ ?_
   rintro _ b8 ⟨aF,rfl,bb,X,R⟩
   have ca:=R.size
   have bB:=X.lt
   refine kG R ?_
   have Y7:=Gr.trans k R
   have bc:=((((((n.gr Y4).md M6 (Qm I)).kz K7).gr Y5).md f (Qm I)).gr Y7)
   have bd:=((((((p.gr Y4).md M6 (Qm J)).kz K7).gr Y5).md f (Qm J)).gr Y7)
   have be:=((((((d.gr Y4).md M6 (Qm t)).kz K7).gr Y5).md f (Qm t)).gr Y7)
   obtain⟨cb,aG,hm⟩:=Qd hm
   refine qz [] rfl (eC Rt rfl (Ba aG bc bd be)) ⟨fun _=>Qb,trivial⟩ ?_
   rintro ah cc ⟨_,ai,aj,rfl,g,ak,G⟩
   have cd:=G.size
   have bC:=g.lth
   refine kG G ?_
   obtain⟨aH,aI,hm⟩:=Qd hm
   refine qz [] rfl (eC Sl rfl (Sb aI (Qe.rd g))) ⟨fun _=>Qb,trivial⟩ ?_
   rintro _ ce ⟨rfl,H⟩
   have cg:=H.size
   refine kG H ?_
   have S:=((((Kp.refl ([]) ab).gr R).gr G).gr H)
   refine dn 0 rfl rfl S<|dn 0 rfl rfl S<|dn 0 rfl rfl S ?_
   have bf:=((X.gr G).gr H)
   refine qz [(1,aF)] rfl (Qr Qy rfl rfl rfl bf rfl rfl) ⟨fun _=>Qb,trivial⟩ ?_
   rintro _ ch ⟨aJ,T⟩
   have ci:=T.size
   refine kM T ?_
   have bg:=(S.md T)
   refine dn 0 rfl rfl bg<|Qi ?_
   exact⟨rfl,⟨aH.1,aH.2,aF⟩,Qh,hm,aJ,(by omega),((((Xi.gr Y7).gr G).gr H).md T)⟩
 clear hm;rintro⟨a9,D,bq8⟩ cj ⟨hm,s,aM,q⟩
 have ck:=q.size
 have bD:=s.lt
 unfold Qgb at hm
 refine Qj<|qs 2 rfl<|qm rfl<|qv rfl (Zp (a:=D) (b:=0) rfl rfl)<|Qa<|Zv hm rfl (fun c3 hm=>?_) (fun c3 hm=>?_)
 · refine qs 3 rfl<|qn 3 rfl<|Qa<|Qs ?_
   refine Zb ?_
   have bh:=(aa.kz q)
   cases hm
   exact⟨_,_,rfl,Xy rfl (Qn rfl) (Qn rfl),(.slice none 0 0),0,0,rfl,(Za _ 0 5 1),⟨.inl rfl⟩,bh⟩
 refine qu<|Qj<|qs 4 rfl<|qv rfl (Qu Qy rfl s rfl)<|qv rfl (Qg Na rfl) ?_
 have Y8:=Gr.trans G4 G5
 have ac:=((((((K.gr Y8).md M6).kz K7).gr Y5).md f).kz q)
 refine qv rfl (Jm (vs:=kb p2.Mac) Qy rfl ac rfl rfl)<|qv rfl (Gj (cf:=kb) (a:=a9) (b:=p2.Mac) Gx rfl rfl rfl rfl (fun h=>Dh h))<|Qa<|Zv hm rfl (fun c4 hm=>?_) (fun c4 hm=>?_)
 · refine qs 2 rfl<|qn 2 rfl<|Qa<|Qs<|Zb ?_
   have bi:=(aa.kz q)
   cases hm
   exact⟨_,_,rfl,Xy rfl (Qn rfl) (Qn rfl),(.slice none 0 0),0,0,rfl,(Za _ 0 5 1),⟨.inl rfl⟩,bi⟩
 refine qu<|qs 10 rfl ?_
 have bj:=(U.kz q)
 refine qv rfl (Qu Qy rfl bj rfl)<|qv rfl (Qg Qcf rfl)<|qv rfl (Ql (v:=wv p2.Number) Zh rfl ac rfl)<|qv rfl (Qg Sy rfl)<|qv rfl (Ql (v:=vp2_39) Yo rfl ac rfl) ?_
 have bk:=((((((d.gr Y4).md M6 (Qm t)).kz K7).gr Y5).md f (Qm t)).kz q)
 obtain⟨cl,aK,hm⟩:=Qd hm
 refine qe rfl (eC Qkt rfl (Qjk aK bk)) ?_
 rintro _ cm ⟨y,z,B,rfl,j,C,aL⟩
 have cn:=aL.size
 have bE:=j.lth
 refine qn 4 rfl<|Qa<|Qs ?_
 have bl:=((aa.kz q).trans aL)
 cases hm
 exact⟨_,_,rfl,Xy rfl (Qn rfl) (Qn rfl),y,z,B,rfl,j,⟨(Qk (A:=(fun x=>w.heap.size≤x)) C)⟩,bl⟩
theorem Ww {p0 p1 p2 p3 p4 vp2_1 zp2_1 gp2_1 op2_1 vp3_2 zp3_2 gp3_2 op3_2 vp3_4 zp3_4 gp3_4 op3_4 vp3_39 zp3_39 gp3_39 op3_39 r}(hm:Tt p0 p1 p2 p3 p4=some r){w:World}(G:Rd w zp2_1 gp2_1 op2_1 18 vp2_1 (p2.Secret.Labels.map Zr.cs))(n:Rd w zp3_2 gp3_2 op3_2 18 vp3_2 (p3.Head.Items.map Zc.cs))(s:Rd w zp3_4 gp3_4 op3_4 2 vp3_4 (p3.Head.Points.map Qx.cs))(i:Rd w zp3_39 gp3_39 op3_39 1 vp3_39 (p3.Data.map Xx)):
 Calls Tryz.prog 31 [.agg (Xn.cs p0).toArray,.agg (Zi.cs p1).toArray,.agg (Xl.cs p2 vp2_1).toArray,.agg (Qo.cs p3 vp3_2 vp3_4 vp3_39).toArray,.int .i64 p4].toArray w fun e w'=>∃ v,e=.returned v∧(∃ ur0_1 zr0_1 gr0_1 ur1_s zr1_s gr1_s,v=.tuple [.agg (Xl.cs r.1 ur0_1).toArray,ur1_s,.int .i64 r.2.2].toArray∧Qe w' zr0_1 gr0_1 120 18 ur0_1 (r.1.Secret.Labels.map Zr.cs)∧Xk (zr0_1=0∨w.heap.size≤gr0_1)∧Qe w' zr1_s gr1_s 5 1 ur1_s (r.2.1.map Xx)∧Xk (zr1_s=0∨w.heap.size≤gr1_s)∧Xk (zr1_s=0∨zr0_1=0∨gr1_s≠gr0_1)∧Gr w w'):=by
 have bj:=G.lth
 have P:=n.lth
 have Q:=s.lth
 have R:=i.lth
 unfold Tt at hm
 refine Xu 68 Tryz.func31 rfl rfl rfl<|qs 7 rfl<|qe rfl (Xp (cs:=Xn.cs p0) rfl rfl) ?_
 rintro _ w1 ⟨b1,rfl,a4,X,G1⟩
 have z5:=G1.size
 have bk:=X.lt
 refine qe rfl (Xp (cs:=Zi.cs p1) rfl rfl) ?_
 rintro _ w2 ⟨b2,rfl,a7,Y,G2⟩
 have z7:=G2.size
 have bl:=Y.lt
 refine qe rfl (Xp (cs:=Xl.cs p2 vp2_1) rfl rfl) ?_
 rintro _ w3 ⟨b3,rfl,ba,Z,G3⟩
 have z9:=G3.size
 have bb:=Z.lt
 refine qe rfl (Xp (cs:=Qo.cs p3 vp3_2 vp3_4 vp3_39) rfl rfl) ?_
 rintro _ w4 ⟨b4,rfl,bc,S,G4⟩
 have bm:=G4.size
 have bd:=S.lt
 refine qe rfl (Qz (cs:=Xl.cs (Xl.mk (Xt.mk 0 [] (Qx.mk 0#64 0#64)) 0 (Jg.mk (Xw.mk false 0 k0) (Xw.mk false 0 k0))) (.slice none 0 0)) Vx rfl) ?_
 rintro _ w5 ⟨b5,rfl,be,I,G5⟩
 have bn:=G5.size
 have bf:=I.lt
 refine qn 2 rfl<|qd 5 rfl ?_
 have Y1:=Gr.trans (Gr.trans (Gr.trans G2 G3) G4) G5
 have aa:=(X.gr Y1)
 refine qv rfl (Qu Jr rfl aa rfl) ?_
 have Y2:=Gr.trans (Gr.trans G3 G4) G5
 have T:=(Y.gr Y2)
 refine qv rfl (Qu Ya rfl T rfl) ?_
 have Y3:=Gr.trans G4 G5
 have ab:=(Z.gr Y3)
 refine qv rfl (Qu Ju rfl ab rfl) ?_
 have Y4:=Gr.trans G1 Y1
 have ac:=(G.gr Y4)
 obtain⟨x1,av,hm⟩:=Qd hm
 refine qe rfl (eC Qqx rfl (Qrg av ac)) ?_
 rintro _ w6 ⟨rfl,G6⟩
 have bo:=G6.size
 refine qm rfl<|Qa ?_
 have Y5:=Gr.trans Y4 G6
 have aw:=((Gr.refl w).trans Y5)
 refine qj (β:=Int) [13,19,20,21,22] (fun a2=>[(13,.int .i64 a2)]) (fun a2 wr=>(Qbs p0 p1 p2 p3 p4 a2=some r)∧Kz [] w6 wr) ?_ ?_
 · refine qs 2 rfl<|qm rfl<|qv rfl (Kw (a:=x1) (b:=0) rfl rfl)<|Qa<|Kg hm rfl (fun c6 hm=>?_) (fun c6 hm=>?_)
   · refine Vl ?_
     exact⟨rfl,x1,Qh,hm,Xi⟩
   refine qg 3 rfl ?_
   have Y6:=Gr.trans G5 G6
   have ax:=(S.gr Y6)
   refine qv rfl (Qu Zl rfl ax rfl) ?_
   have ay:=(n.gr Y5)
   have az:=(s.gr Y5)
   have aA:=(i.gr Y5)
   obtain⟨aB,ad,hm⟩:=Qd hm
   refine qe rfl (eC Qfs rfl (Qfw ad ay az aA)) ?_
   rintro _ bp ⟨rfl,ae⟩
   have bq:=ae.size
   refine qm rfl<|Qi ?_
   exact⟨rfl,aB,Qh,hm,(Xi.gr ae)⟩
 clear hm;rintro a2 w7 ⟨hm,K7⟩
 have br:=K7.size
 unfold Qbs at hm
 have af:=(aw.kz K7)
 refine qj (β:=Int) ([13]++rg 23 7) (fun a3=>[(13,.int .i64 a3)]) (fun a3 wr=>(Qbt p0 p1 p2 p3 p4 a3=some r)∧Kz [] w7 wr) ?_ ?_
 · refine qj (β:=Bool) (rg 23 7) (fun J=>[(29,.bool J)]) (fun J wr=>(Qbv p0 p1 p2 p3 p4 a2 J=some r)∧Kz [] w7 wr) ?_ ?_
   · refine qg 7 rfl<|qm rfl<|qv rfl (Kw (a:=a2) (b:=0) rfl rfl)<|Kr hm rfl (Qw rfl) (fun c5 hm=>?_) (fun c5 hm=>?_)
     · refine qn 4 rfl<|Qi ?_
       exact⟨rfl,false,Qh,hm,Xi⟩
     refine qm rfl ?_
     obtain⟨aC,ag,hm⟩:=Qd hm
     refine qe rfl (eC Sk rfl (Sr ag)) ?_
     rintro _ bs ⟨rfl,ah⟩
     have bu:=ah.size
     refine qv rfl (Jj rfl)<|qm rfl<|Qi ?_
     exact⟨rfl,(!aC),Qh,hm,(Xi.gr ah)⟩
   clear hm;rintro J bw ⟨hm,U⟩
   have bx:=U.size
   unfold Qbv at hm
   refine Nt hm rfl (fun c4 hm=>?_) (fun c4 hm=>?_)
   · refine Vl ?_
     exact⟨rfl,a2,Qh,hm,(Xi.kz U)⟩
   refine qg 1 rfl<|qm rfl<|Qi ?_
   exact⟨rfl,2,Qh,hm,(Xi.kz U)⟩
 clear hm;rintro a3 w8 ⟨hm,K8⟩
 have bz:=K8.size
 unfold Qbt at hm
 refine Qj<|qs 2 rfl<|qm rfl<|qv rfl (Zp (a:=a3) (b:=0) rfl rfl)<|Qa<|Zv hm rfl (fun c1 hm=>?_) (fun c1 hm=>?_)
 · refine qs 5 rfl<|qv rfl (Zk (cs:=Xl.cs (Xl.mk (Xt.mk 0 [] (Qx.mk 0#64 0#64)) 0 (Jg.mk (Xw.mk false 0 k0) (Xw.mk false 0 k0))) (.slice none 0 0)) Cr rfl (by kernel_rfl))<|qm rfl ?_
   have aD:=(((I.gr G6).kz K7).kz K8)
   refine qe rfl (Qr Ju rfl rfl (Xl.cs_ones _ _ rfl) aD rfl rfl) ?_
   rintro _ w9 ⟨aE,M9⟩
   have bA:=M9.size
   refine qn 2 rfl<|qb ?_
   have aF:=((af.kz K8).md M9)
   cases hm
   exact⟨_,_,rfl,Qi2 rfl (Zf Ju rfl aE rfl) (Qn rfl) (Qn rfl),(.slice none 0 0),0,0,(.slice none 0 0),0,0,rfl,(Za _ 0 120 18),⟨.inl rfl⟩,(Za _ 0 5 1),⟨.inl rfl⟩,⟨(.inl rfl)⟩,aF⟩
 refine qu<|qs 7 rfl<|qv rfl (Qg Ic rfl)<|qv rfl (Qg Uh rfl) ?_
 have ai:=(((ab.gr G6).kz K7).kz K8)
 refine qv rfl (Ql (v:=vp2_1) Bs rfl ai rfl) ?_
 have aG:=(((ac.gr G6).kz K7).kz K8)
 obtain⟨x4,aH,hm⟩:=Qd hm
 refine qe rfl (eC Qr5 rfl (Qv3 aH aG)) ?_
 rintro h bB ⟨_,j,l,rfl,d,c,g⟩
 have bC:=g.size
 have aj:=d.lth
 refine qv rfl (Qg Ic rfl)<|qv rfl (Qg Uh rfl) ?_
 have aI:=(ai.gr g)
 refine qe rfl (Js (cs':=Xl.cs (Xl.mk (Xt.mk p2.Secret.Receiver x4 p2.Secret.Share) p2.Ahead p2.Slots) h) (Bs).siz rfl rfl (Qe.oneB d) aI rfl rfl) ?_
 rintro _ K ⟨u,f⟩
 have bD:=f.size
 refine qd 1 rfl<|qm rfl<|Qa ?_
 have ak:=(((af.kz K8).trans g).md f)
 refine qj (β:=Int × List (BitVec 8) × Int × Qx × Int × Jg × Value × Nat × Nat) ([13,14]++rg 40 22) (fun⟨a5,a6,a8,a9,L,M,vy7,zy7,gy7⟩=>[(13,.int .i64 a5),(14,vy7)]) (fun⟨a5,a6,a8,a9,L,M,vy7,zy7,gy7⟩ wr=>(Qbu x4 a5 a6 a8 a9 L M=some r)∧Qe wr zy7 gy7 5 1 vy7 (a6.map Xx)∧Xk (zy7=0∨K.heap.size≤gy7)∧Bx wr b3 105 (Xl.cs (Xl.mk (Xt.mk a8 x4 a9) L M) h)∧Kz [(1,b3)] K wr) ?_ ?_
 · refine qs 3 rfl<|qv rfl (Qg Ih rfl) ?_
   have Y7:=Gr.trans G5 G6
   have V:=(((((S.gr Y7).kz K7).kz K8).gr g).md f)
   refine qv rfl (Ql (v:=bv p3.Kind) Zj rfl V rfl)<|qv rfl (Pb (p:=p3.Kind) (q:=1#8) rfl rfl)<|Qa<|Zv hm rfl (fun c3 hm=>?_) (fun c3 hm=>?_)
   · refine qg 9 rfl ?_
     have aJ:=(((((aa.gr G6).kz K7).kz K8).gr g).md f)
     refine qv rfl (Qu Jr rfl aJ rfl) ?_
     have aK:=(((((T.gr G6).kz K7).kz K8).gr g).md f)
     refine qv rfl (Qu Ya rfl aK rfl)<|qv rfl (Qu Zl rfl V rfl)<|qm rfl<|qv rfl (Qg Qcc rfl)<|qv rfl (Ql (v:=.int .i64 p2.Ahead) Xm rfl u rfl)<|qv rfl (Zy (k:=.i64) (a:=p4) (b:=p2.Ahead) rfl rfl) ?_
     have aL:=(d.md f (Qt c))
     have aM:=(((((n.gr Y5).kz K7).kz K8).gr g).md f (Qm P))
     have aN:=(((((s.gr Y5).kz K7).kz K8).gr g).md f (Qm Q))
     have aO:=(((((i.gr Y5).kz K7).kz K8).gr g).md f (Qm R))
     obtain⟨H,al,hm⟩:=Qd hm
     refine qe rfl (eC Qr6 rfl (Qrr al u (Qe.rd aL) aM aN aO ⟨(Qc (Qt (b:=b3) c))⟩ ⟨(Qc (Qm (b:=b3) P))⟩ ⟨(Qc (Qm (b:=b3) Q))⟩ ⟨(Qc (Qm (b:=b3) R))⟩)) ?_
     rintro _ bE ⟨rfl,N,am⟩
     have bF:=am.size
     refine qm rfl<|Qi ?_
     exact⟨rfl,⟨H.1,[],H.2.Secret.Receiver,H.2.Secret.Share,H.2.Ahead,H.2.Slots,(.slice none 0 0),0,0⟩,Qh,hm,(Za _ 0 5 1),⟨(.inl rfl)⟩,N,(Kz.kz (Kz.refl _ _) am)⟩
   refine qg 13 rfl ?_
   have aP:=(((((T.gr G6).kz K7).kz K8).gr g).md f)
   refine qv rfl (Qu Ya rfl aP rfl)<|qv rfl (Qu Ju rfl u rfl)<|qv rfl (Qu Zl rfl V rfl)<|qm rfl<|qv rfl (Qg Qcc rfl)<|qv rfl (Ql (v:=.int .i64 p2.Ahead) Xm rfl u rfl)<|qv rfl (Zy (k:=.i64) (a:=p4) (b:=p2.Ahead) rfl rfl) ?_
   have aQ:=(d.md f (Qt c))
   have aR:=(((((n.gr Y5).kz K7).kz K8).gr g).md f (Qm P))
   have aS:=(((((s.gr Y5).kz K7).kz K8).gr g).md f (Qm Q))
   have aT:=(((((i.gr Y5).kz K7).kz K8).gr g).md f (Qm R))
   obtain⟨an,ao,hm⟩:=Qd hm
   refine qe rfl (eC Qr7 rfl (Qrs ao (Qe.rd aQ) aR aS aT)) ?_
   rintro _ aU ⟨B,C,D,rfl,m,E,W⟩
   have bG:=W.size
   have bg:=m.lth
   refine qn 5 rfl<|Qi ?_
   have K_62:Kz [(1,b3)] K aU:=(Kz.gr (Kz.refl _ _) W)
   have aV:=(u.gr W)
   exact⟨rfl,⟨an.2,an.1,p2.Secret.Receiver,p2.Secret.Share,p2.Ahead,p2.Slots,B,C,D⟩,Qh,hm,m,⟨(Qk (A:=(fun x=>K.heap.size≤x)) E)⟩,aV,K_62⟩
 clear hm;rintro⟨a5,a6,a8,a9,L,M,vy7,zy7,gy7⟩ bH ⟨hm,y,t,z,F⟩
 have bI:=F.size
 have bh:=y.lth
 have bi:=z.lt
 unfold Qbu at hm
 refine Qj<|qs 2 rfl<|qm rfl<|qv rfl (Zp (a:=a5) (b:=0) rfl rfl)<|Qa<|Zv hm rfl (fun c2 hm=>?_) (fun c2 hm=>?_)
 · refine qs 5 rfl<|qv rfl (Zk (cs:=Xl.cs (Xl.mk (Xt.mk 0 [] (Qx.mk 0#64 0#64)) 0 (Jg.mk (Xw.mk false 0 k0) (Xw.mk false 0 k0))) (.slice none 0 0)) Cr rfl (by kernel_rfl))<|qm rfl ?_
   have aW:=((((((I.gr G6).kz K7).kz K8).gr g).md f).kz F)
   refine qe rfl (Qr Ju rfl rfl (Xl.cs_ones _ _ rfl) aW rfl rfl) ?_
   rintro _ bJ ⟨ap,aq⟩
   have bK:=aq.size
   refine qn 2 rfl<|qb ?_
   have aX:=((ak.kz F).md aq)
   cases hm
   exact⟨_,_,rfl,Qi2 rfl (Zf Ju rfl ap rfl) (Qn rfl) (Qn rfl),(.slice none 0 0),0,0,(.slice none 0 0),0,0,rfl,(Za _ 0 120 18),⟨.inl rfl⟩,(Za _ 0 5 1),⟨.inl rfl⟩,⟨(.inl rfl)⟩,aX⟩
 refine qu<|qs 5 rfl<|qv rfl (Qu Ju rfl z rfl)<|qm rfl ?_
 have aY:=((((((I.gr G6).kz K7).kz K8).gr g).md f).kz F)
 have ar:=((d.md f (Qt c)).kz F (Qc (Qt (b:=b3) c)))
 refine qe rfl (Qr Ju rfl rfl (Xl.cs_ones _ _ (Qe.oneB ar)) aY rfl rfl) ?_
 rintro _ bL ⟨au,O⟩
 have bM:=O.size
 refine qn 2 rfl<|Qa<|Qs ?_
 have aZ:=(ar.md O (Qt c))
 have a0:=(y.md O (Qt t))
 have a1:=((ak.kz F).md O)
 cases hm
 exact⟨_,_,rfl,Qi2 rfl (Zf Ju rfl au rfl) (Qn rfl) (Qn rfl),h,j,l,vy7,zy7,gy7,rfl,aZ,⟨(Qk (A:=(fun x=>w.heap.size≤x)) c)⟩,a0,⟨(Qk (A:=(fun x=>w.heap.size≤x)) t)⟩,⟨(Qk (A:=(fun x=>j=0∨x≠l)) t (fun x hx=>(Qc aj.o)))⟩,a1⟩
end Go.Proofs.YtplcaaglieefgaaGreat.Mx
