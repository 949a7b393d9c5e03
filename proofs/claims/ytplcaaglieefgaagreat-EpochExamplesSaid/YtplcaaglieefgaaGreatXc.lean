/- Walks that follow mirrors: Xc. Printed by mx.py. -/
import Derived.Test.YtplcaaglieefgaaGreatXb
import Derived.Test.YtplcaaglieefgaaGreatZd
set_option linter.unusedVariables false
set_option linter.unusedSimpArgs false
set_option maxRecDepth 100000
set_option maxHeartbeats 2000000
namespace Go.Proofs.YtplcaaglieefgaaGreat.Mx
open Go Go.RowKit Go.Sx
theorem Ow:ZV Tryz.prog 312 (.slice none 0 0):=fun _=>by kernel_rfl
theorem Ox:ZV Tryz.prog 315 (.int .u64 0):=fun _=>by kernel_rfl
theorem Qxa:ZV Tryz.prog 323 (.nilFunc):=fun _=>by kernel_rfl
theorem Qcz:Vn Tryz.prog 323:=fun _=>⟨by kernel_rfl,by kernel_rfl⟩
theorem Qke:En Tryz.prog 225:=fun _ _=>by kernel_rfl
theorem Qfl:En Tryz.prog 224:=fun _ _=>by kernel_rfl
theorem Qhp {p0 p1 p2 p3 p4 bp1 bp2 vp2_0 zp2_0 gp2_0 op2_0 vp2_2 zp2_2 gp2_2 op2_2 bp3 vp3_0 zp3_0 gp3_0 op3_0 bp4 r}(hm:Iy p0 p1 p2 p3 p4=some r){w:World}(hbp1:Bx w bp1 49 (Xn.cs p1))(hbp2:Bx w bp2 53 (Qq.cs p2 vp2_0 vp2_2))(b:Rd w zp2_0 gp2_0 op2_0 18 vp2_0 (p2.Items.map Zc.cs))(c:Rd w zp2_2 gp2_2 op2_2 2 vp2_2 (p2.Points.map Qx.cs))(hbp3:Bx w bp3 312 ([vp3_0]))(a:Rd w zp3_0 gp3_0 op3_0 1 vp3_0 (p3.map Wi))(hbp4:Bx w bp4 315 ([wv p4])):
 Calls Tryz.prog 224 [wv p0,.pointer (some ⟨bp1,0,none⟩),.pointer (some ⟨bp2,0,none⟩),.pointer (some ⟨bp3,0,none⟩),.pointer (some ⟨bp4,0,none⟩)].toArray w fun e w'=>∃ v,e=.returned v∧(v=wv r∧Gr w w'):=by
 have l:=hbp1.lt
 have m:=b.lth
 have n:=c.lth
 have o:=hbp2.lt
 have p:=a.lth
 have q:=hbp3.lt
 have s:=hbp4.lt
 unfold Iy at hm
 refine Xu 15 Tryz.func224 rfl rfl rfl<|qs 1 rfl<|qm rfl<|Qa<|Qj<|dw [([])] [] (.leaf [(0,10),(1,10),(2,10),(3,10),(4,10),(5,10),(6,0),(7,0),(8,10)]) ?_
 intro w1 G1 t
 refine Xo ?_
 have B8:=(hbp1.gr G1)
 refine dh 0 rfl rfl (fun w hS=>Qu Jr rfl (Bx.kp B8 hS) rfl)<|dh 0 rfl rfl (fun w hS=>Qg Gb rfl) ?_
 have B9:=(hbp2.gr G1)
 refine dh 0 rfl rfl (fun w hS=>Ql (v:=wv p2.Base) Zh rfl (Bx.kp B9 hS) rfl) ?_
 have d:=(hbp3.gr G1)
 refine dh 0 rfl rfl (fun w hS=>Ql (v:=vp3_0) Lp rfl (Bx.kp d hS) rfl) ?_
 have f:=(hbp4.gr G1)
 refine dh 0 rfl rfl (fun w hS=>Ql (v:=wv p4) Lq rfl (Bx.kp f hS) rfl)<|dm 0 rfl rfl ?_
 have g:=(a.gr G1)
 obtain⟨x1,h,hm⟩:=Qd hm
 refine qz [] rfl (eC Qkb rfl (Qmv h g)) ⟨fun _=>Qb,trivial⟩ ?_
 rintro _ w2 ⟨rfl,G2⟩
 have u:=G2.size
 refine kG G2 ?_
 obtain⟨x2,i,hm⟩:=Qd hm
 refine qz [] rfl (eC Ag rfl (Oa i)) ⟨fun _=>Qb,trivial⟩ ?_
 rintro _ w3 ⟨rfl,G3⟩
 have x:=G3.size
 refine kG G3 ?_
 have j:=(((Kp.refl ([]) w1).gr G2).gr G3)
 refine dn 0 rfl rfl j<|Qa<|Qs ?_
 have k:=((((Gr.refl w).trans G1).trans G2).trans G3)
 cases hm
 exact⟨_,_,rfl,Xj rfl (Qn rfl),rfl,k⟩
theorem Qu7 {p0 p1 p2 p3 p4 vp2 zp2 gp2 op2 r}(hm:Qho p0 p1 p2 p3 p4=some r){w:World}(cZ:Rd w zp2 gp2 op2 1 vp2 (p2.map ic)):
 Calls Tryz.prog 122 [kv p0,.agg (Xn.cs p1).toArray,vp2,kv p3,wv p4].toArray w fun e w'=>∃ v,e=.returned v∧(∃ ur0_0 zr0_0 gr0_0 ur0_2 zr0_2 gr0_2,v=.tuple [.agg (Qq.cs r.1 ur0_0 ur0_2).toArray,.int .i64 r.2].toArray∧Qe w' zr0_0 gr0_0 195 18 ur0_0 (r.1.Items.map Zc.cs)∧Xk (zr0_0=0∨w.heap.size≤gr0_0)∧Qe w' zr0_2 gr0_2 65 2 ur0_2 (r.1.Points.map Qx.cs)∧Xk (zr0_2=0∨w.heap.size≤gr0_2)∧Xk (zr0_2=0∨zr0_0=0∨gr0_2≠gr0_0)∧Gr w w'):=by
 have aU:=cZ.lth
 unfold Qho at hm
 refine Xu 123 Tryz.func122 rfl rfl rfl<|qs 5 rfl<|qe rfl (Xp (cs:=kb p0) rfl rfl) ?_
 rintro _ w1 ⟨b1,rfl,gv,cp,G1⟩
 have z2:=G1.size
 have hL:=cp.lt
 refine qe rfl (Xp (cs:=Xn.cs p1) rfl rfl) ?_
 rintro _ w2 ⟨b2,rfl,gw,c0,G2⟩
 have z4:=G2.size
 have hM:=c0.lt
 refine qe rfl (Xp (cs:=kb p3) rfl rfl) ?_
 rintro _ w3 ⟨b3,rfl,gx,cq,G3⟩
 have z6:=G3.size
 have hN:=cq.lt
 refine qe rfl (Qz (cs:=Qq.cs (Qq.mk [] 0#64 [] k0 k0) (.slice none 0 0) (.slice none 0 0)) Gl rfl) ?_
 rintro _ w4 ⟨b4,rfl,gy,aV,G4⟩
 have z8:=G4.size
 have hO:=aV.lt
 refine qm rfl<|Qa<|Qj<|qs 3 rfl ?_
 have Y1:=Gr.trans G3 G4
 have cr:=(c0.gr Y1)
 refine qv rfl (Qu Jr rfl cr rfl) ?_
 obtain⟨x1,e7,hm⟩:=Qd hm
 refine qe rfl (eC Qb2 rfl (Qdi e7)) ?_
 rintro _ w5 ⟨rfl,G5⟩
 have hP:=G5.size
 refine qv rfl (Jj rfl)<|Qa<|Zw hm rfl (fun c1 hm=>?_) (fun c1 hm=>?_)
 · refine qs 3 rfl<|qv rfl (Zk (cs:=Qq.cs (Qq.mk [] 0#64 [] k0 k0) (.slice none 0 0) (.slice none 0 0)) Hs rfl (by kernel_rfl)) ?_
   have e8:=(aV.gr G5)
   refine qe rfl (Qr Jw rfl rfl (Qq.cs_ones _ _ _ rfl rfl) e8 rfl rfl) ?_
   rintro _ w6 ⟨e9,M6⟩
   have hQ:=M6.size
   refine qm rfl<|qb ?_
   have Y2:=Gr.trans (Gr.trans (Gr.trans G1 G2) Y1) G5
   have fa:=(((Gr.refl w).trans Y2).md M6)
   cases hm
   exact⟨_,_,rfl,Xy rfl (Zf Jw rfl e9 rfl) (Qn rfl),(.slice none 0 0),0,0,(.slice none 0 0),0,0,rfl,(Za _ 0 195 18),⟨.inl rfl⟩,(Za _ 0 65 2),⟨.inl rfl⟩,⟨(.inl rfl)⟩,fa⟩
 refine qu<|Qj<|qs 3 rfl<|qm rfl ?_
 have Y3:=Gr.trans (Gr.trans (Gr.trans G1 G2) Y1) G5
 have ct:=(cZ.gr Y3)
 refine qv rfl (Zx (l:=p2) (c:=ic) Tryz.underlying45 rfl ct)<|qm rfl<|Qa<|Xz ?_
 have cu:=((Gr.refl w).trans Y3)
 refine Kb (α:=Nat × Int) ([11,12,13]++rg 29 29) (fun⟨n1,a3⟩=>[(11,.int .i64 0),(29,.int .i64 a3)]) (fun⟨n1,a3⟩ wr=>(Xq (Qd3 p0 p1 p2 p3 p4) n1 a3=some r)∧Kz [] w5 wr) (fun⟨n1,a3⟩=>n1) ⟨Ze,0⟩ ?_ ?_ ?_
 · exact Qh
 · exact⟨hm,Kz.refl _ _⟩
 clear hm;rintro⟨n1,a3⟩ w7 ⟨hm,K7⟩
 have hR:=K7.size
 have hb:=Kd hm;clear hm;obtain⟨n1,rfl,hm⟩:=hb
 generalize cv:Xq (Qd3 p0 p1 p2 p3 p4) n1=da at hm
 unfold Qd3 at hm
 try dsimp only at hm
 refine qs 1 rfl<|qv rfl (Jb (a:=a3) (b:=(p2.length:Int)) rfl rfl)<|Qa<|Qj<|Zv hm rfl (fun c2 hm=>?_) (fun c2 hm=>?_)
 · refine qu<|Qj<|Xz<|qs 5 rfl<|qm rfl ?_
   obtain⟨y4,db,hm⟩:=Qd hm
   have br:=(ct.kz K7)
   refine qv rfl (Vm (i:=a3) Tryz.underlying45 (Xm).siz rfl br rfl db)<|qv rfl (Pz (q:=0) (u:=.int .i64 y4) Xm rfl br db (by first|rfl|omega) rfl)<|qn 2 rfl<|Qa ?_
   have fb:=(cu.kz K7)
   refine qj (β:=Bool) (rg 34 22) (fun a5=>[(55,.bool a5)]) (fun a5 wr=>(Uq a3 da a5=some r)∧Kz [] w7 wr) ?_ ?_
   · refine qg 22 rfl<|qm rfl<|qv rfl (Jb (a:=y4) (b:=0) rfl rfl)<|Zm hm rfl (Qw rfl) (fun c4 hm=>?_) (fun c4 hm=>?_)
     · refine qn 7 rfl ?_
       refine qn 7 rfl ?_
       refine qn 5 rfl<|Qi ?_
       exact⟨rfl,true,Qh,hm,Xi⟩
     refine qm rfl<|qv rfl (Qg Ga rfl) ?_
     have fc:=((cr.gr G5).kz K7)
     refine qv rfl (Ql (v:=.int .i64 p1.Depth) Xm rfl fc rfl) ?_
     obtain⟨nn6,hnn6,hm⟩:=Qd hm
     refine qv rfl (Ef (a:=1) (b:=p1.Depth) rfl rfl hnn6)<|qv rfl (Vd (a:=y4) (b:=Hb 1 nn6) rfl rfl)<|qm rfl<|Zm hm rfl (Qw rfl) (fun c5 hm=>?_) (fun c5 hm=>?_)
     · refine qn 7 rfl ?_
       refine qn 5 rfl<|Qi ?_
       exact⟨rfl,true,Qh,hm,Xi⟩
     refine qm rfl<|qv rfl (Ve (a:=a3) (b:=0) rfl rfl)<|Kr hm rfl (Qw rfl) (fun c6 hm=>?_) (fun c6 hm=>?_)
     · refine qn 7 rfl ?_
       refine qn 2 rfl<|Qi ?_
       exact⟨rfl,false,Qh,hm,Xi⟩
     refine qn 3 rfl<|qv rfl (Ys (k:=.i64) (a:=a3) (b:=1) rfl rfl) ?_
     obtain⟨y7,dc,hm⟩:=Qd hm
     refine qv rfl (Vm (i:=Qp (a3-1)) Tryz.underlying45 (Xm).siz rfl br rfl dc)<|qv rfl (Pz (q:=0) (u:=.int .i64 y7) Xm rfl br dc (by first|rfl|omega) rfl)<|qv rfl (Dp (a:=y4) (b:=y7) rfl rfl)<|qn 2 rfl<|Qi ?_
     exact⟨rfl,(decide (y4≤y7)),Qh,hm,Xi⟩
   clear hm;rintro a5 w8 ⟨hm,K8⟩
   have hT:=K8.size
   unfold Uq at hm
   refine Nt hm rfl (fun c3 hm=>?_) (fun c3 hm=>?_)
   · refine Vl<|Zo<|Zg<|qg 2 rfl<|qv rfl (Zy (k:=.i64) (a:=a3) (b:=1) rfl rfl)<|qm rfl<|Qi ?_
     have K_24:Kz [] w5 w8:=(K7.kz K8)
     subst cv
     exact⟨rfl,⟨n1,Qp (a3+1)⟩,Qh,⟨hm,K_24⟩,Nat.lt_succ_self _⟩
   refine qs 3 rfl<|qv rfl (Zk (cs:=Qq.cs (Qq.mk [] 0#64 [] k0 k0) (.slice none 0 0) (.slice none 0 0)) Hs rfl (by kernel_rfl)) ?_
   have fd:=(((aV.gr G5).kz K7).kz K8)
   refine qe rfl (Qr Jw rfl rfl (Qq.cs_ones _ _ _ rfl rfl) fd rfl rfl) ?_
   rintro _ w9 ⟨fe,M9⟩
   have hU:=M9.size
   refine qm rfl<|Qa<|Qs<|Je<|Zb<|Zb<|Je ?_
   refine Zb ?_
   have ff:=((fb.kz K8).md M9)
   cases hm
   exact⟨_,_,rfl,Xy rfl (Zf Jw rfl fe rfl) (Qn rfl),(.slice none 0 0),0,0,(.slice none 0 0),0,0,rfl,(Za _ 0 195 18),⟨.inl rfl⟩,(Za _ 0 65 2),⟨.inl rfl⟩,⟨(.inl rfl)⟩,ff⟩
 refine Jl<|Zd<|Zd<|Jk<|Zg<|Qj<|Qj ?_
 refine qg 5 rfl<|qm rfl ?_
 have dd:=(ct.kz K7)
 refine qv rfl (Zx (l:=p2) (c:=ic) Tryz.underlying45 rfl dd)<|qv rfl (Qg Bh rfl) ?_
 have cw:=((cr.gr G5).kz K7)
 refine qv rfl (Ql (v:=.int .i64 p1.Degree) Xm rfl cw rfl)<|qv rfl (Ve (a:=(p2.length:Int)) (b:=p1.Degree) rfl rfl)<|Qa<|Zv hm rfl (fun c7 hm=>?_) (fun c7 hm=>?_)
 · refine qs 3 rfl<|qv rfl (Zk (cs:=Qq.cs (Qq.mk [] 0#64 [] k0 k0) (.slice none 0 0) (.slice none 0 0)) Hs rfl (by kernel_rfl)) ?_
   have fg:=((aV.gr G5).kz K7)
   refine qe rfl (Qr Jw rfl rfl (Qq.cs_ones _ _ _ rfl rfl) fg rfl rfl) ?_
   rintro _ hV ⟨de,df⟩
   have hW:=df.size
   refine qm rfl<|qb ?_
   have fh:=((cu.kz K7).md df)
   cases hm
   exact⟨_,_,rfl,Xy rfl (Zf Jw rfl de rfl) (Qn rfl),(.slice none 0 0),0,0,(.slice none 0 0),0,0,rfl,(Za _ 0 195 18),⟨.inl rfl⟩,(Za _ 0 65 2),⟨.inl rfl⟩,⟨(.inl rfl)⟩,fh⟩
 refine qu ?_
 have fi:=(cu.kz K7)
 refine qj (β:=List (BitVec 64) × Nat × Value × Nat × Nat × Nat) ([14,15]++rg 64 6) (fun⟨a9,bq8,vy10,zy10,gy10,bq11⟩=>[(14,.pointer (some ⟨bq8,0,none⟩)),(15,.pointer (some ⟨bq11,0,none⟩))]) (fun⟨a9,bq8,vy10,zy10,gy10,bq11⟩ wr=>(Qhq p0 p1 p2 p3 p4 a9=some r)∧Qe wr zy10 gy10 22 1 vy10 (a9.map Wi)∧Xk (zy10=0∨w7.heap.size≤gy10)∧Bx wr bq8 312 ([vy10])∧w7.heap.size≤bq8∧Bx wr bq11 315 ([wv p1.Group.Q])∧w7.heap.size≤bq11∧Xk (zy10=0∨gy10≠bq8)∧bq11≠bq8∧Xk (zy10=0∨gy10≠bq11)∧Kz [] w7 wr) ?_ ?_
 · refine dw [([])] [] (.fork [(0,10),(1,10),(3,10),(4,10),(5,10)] (.fork [(2,0)] (.leaf [(6,0),(7,0),(8,0),(9,0)]) (.leaf [(7,0),(6,0),(8,0),(9,0)])) (.fork [] (.fork [(6,0)] (.leaf [(2,0),(7,0),(8,0),(9,0)]) (.leaf [(7,0),(2,0),(8,0),(9,0)])) (.fork [(7,0)] (.leaf [(2,0),(6,0),(8,0),(9,0)]) (.leaf [(6,0),(2,0),(8,0),(9,0)])))) ?_
   intro hX am gz
   refine Zt ?_
   have Y4:=Gr.trans (Gr.trans G2 Y1) G5
   have dg:=(((cp.gr Y4).kz K7).gr am)
   refine dh 0 rfl rfl (fun w hS=>Qu Qy rfl (Bx.kp dg hS) rfl) ?_
   have bO:=(cw.gr am)
   refine dh 0 rfl rfl (fun w hS=>Qu Jr rfl (Bx.kp bO hS) rfl)<|dh 0 rfl rfl (fun w hS=>Qg Pt rfl)<|dh 0 rfl rfl (fun w hS=>Qg Tx rfl)<|dh 0 rfl rfl (fun w hS=>Ql (v:=wv p1.Group.Q) Zh rfl (Bx.kp bO hS) rfl)<|Zs ?_ (Zt (Zs ?_ ?_))
   · refine Zt ?_
     obtain⟨di,dj,hm⟩:=Qd hm
     refine qz [] rfl (eC Mn rfl (Ut dj)) ⟨fun _=>Qb,trivial⟩ ?_
     rintro B hY ⟨_,Y,Z,rfl,H,aa,bs⟩
     have gA:=bs.size
     have s:=H.lth
     refine kG bs<|Zs ?_ ?_
     · refine Xo<|qz [] rfl (Qz (cs:=[(.slice none 0 0)]) Ow rfl) ⟨fun _=>Qb,trivial⟩ ?_
       rintro _ hZ ⟨cx,rfl,fj,bP,bu⟩
       have gB:=bu.size
       have fk:=bP.lt
       refine kG bu<|qz [] rfl (Qz (cs:=[wv 0#64]) Ox rfl) ⟨fun _=>Qb,trivial⟩ ?_
       rintro _ h0 ⟨cy,rfl,fl,bQ,aW⟩
       have gC:=aW.size
       have fm:=bQ.lt
       refine kG aW ?_
       have dk:=(bP.gr aW)
       have bR:=((H.gr bu).gr aW)
       refine qz [(1,cx)] rfl (Js (cs':=[B]) (Lp).siz rfl rfl (Qe.oneB bR) dk rfl rfl) ⟨fun _=>Qb,trivial⟩ ?_
       rintro _ h1 ⟨dl,aX⟩
       have gD:=aX.size
       refine kM aX ?_
       have dp:=(bQ.md aX)
       refine qz [(1,cy)] rfl (Js (cs':=[wv p1.Group.Q]) (Lq).siz rfl rfl rfl dp rfl rfl) ⟨fun _=>Qb,trivial⟩ ?_
       rintro _ fn ⟨dq,aY⟩
       have gE:=aY.size
       refine kM aY<|Qi ?_
       have K_169:Kz [] w7 fn:=((((((Kz.gr (Kz.refl _ _) am).gr bs).gr bu).gr aW).md aX).md aY)
       have dr:=((bR.md aX (Qm s)).md aY (Qm s))
       have ds:=(dl.md aY)
       exact⟨rfl,⟨di,cx,B,Y,Z,cy⟩,Qh,hm,dr,⟨(Qk (A:=(fun x=>w7.heap.size≤x)) aa)⟩,ds,(by omega),dq,(by omega),⟨(Kq (A:=(fun x=>x≠cx)) s)⟩,(by omega),⟨(Kq (A:=(fun x=>x≠cy)) s)⟩,K_169⟩
     refine Xo<|qz [] rfl (Qz (cs:=[wv 0#64]) Ox rfl) ⟨fun _=>Qb,trivial⟩ ?_
     rintro _ h2 ⟨cz,rfl,fo,bS,bw⟩
     have gF:=bw.size
     have fp:=bS.lt
     refine kG bw<|qz [] rfl (Qz (cs:=[(.slice none 0 0)]) Ow rfl) ⟨fun _=>Qb,trivial⟩ ?_
     rintro _ h3 ⟨cA,rfl,fq,bT,aZ⟩
     have gG:=aZ.size
     have fr:=bT.lt
     refine kG aZ ?_
     have bU:=((H.gr bw).gr aZ)
     refine qz [(1,cA)] rfl (Js (cs':=[B]) (Lp).siz rfl rfl (Qe.oneB bU) bT rfl rfl) ⟨fun _=>Qb,trivial⟩ ?_
     rintro _ h4 ⟨dt,a0⟩
     have gH:=a0.size
     refine kM a0 ?_
     have du:=((bS.gr aZ).md a0)
     refine qz [(1,cz)] rfl (Js (cs':=[wv p1.Group.Q]) (Lq).siz rfl rfl rfl du rfl rfl) ⟨fun _=>Qb,trivial⟩ ?_
     rintro _ fs ⟨dv,a1⟩
     have gI:=a1.size
     refine kM a1<|Qi ?_
     have K_180:Kz [] w7 fs:=((((((Kz.gr (Kz.refl _ _) am).gr bs).gr bw).gr aZ).md a0).md a1)
     have dy:=((bU.md a0 (Qm s)).md a1 (Qm s))
     have dz:=(dt.md a1)
     exact⟨rfl,⟨di,cA,B,Y,Z,cz⟩,Qh,hm,dy,⟨(Qk (A:=(fun x=>w7.heap.size≤x)) aa)⟩,dz,(by omega),dv,(by omega),⟨(Kq (A:=(fun x=>x≠cA)) s)⟩,(by omega),⟨(Kq (A:=(fun x=>x≠cz)) s)⟩,K_180⟩
   · refine Zt<|qz [] rfl (Qz (cs:=[(.slice none 0 0)]) Ow rfl) ⟨fun _=>Qb,trivial⟩ ?_
     rintro _ h5 ⟨aB,rfl,ft,a2,bx⟩
     have gJ:=bx.size
     have fu:=a2.lt
     refine kG bx<|Zs ?_ ?_
     · refine Xo ?_
       obtain⟨fv,dA,hm⟩:=Qd hm
       refine qz [] rfl (eC Mn rfl (Ut dA)) ⟨fun _=>Qb,trivial⟩ ?_
       rintro ab h6 ⟨_,aC,aD,rfl,ac,I,bz⟩
       have gK:=bz.size
       have a4:=ac.lth
       refine kG bz<|qz [] rfl (Qz (cs:=[wv 0#64]) Ox rfl) ⟨fun _=>Qb,trivial⟩ ?_
       rintro _ h7 ⟨cB,rfl,fw,bV,a6⟩
       have gL:=a6.size
       have fx:=bV.lt
       refine kG a6 ?_
       have dB:=((a2.gr bz).gr a6)
       have bW:=(ac.gr a6)
       refine qz [(1,aB)] rfl (Js (cs':=[ab]) (Lp).siz rfl rfl (Qe.oneB bW) dB rfl rfl) ⟨fun _=>Qb,trivial⟩ ?_
       rintro _ h8 ⟨dC,a7⟩
       have gM:=a7.size
       refine kM a7 ?_
       have dD:=(bV.md a7)
       refine qz [(1,cB)] rfl (Js (cs':=[wv p1.Group.Q]) (Lq).siz rfl rfl rfl dD rfl rfl) ⟨fun _=>Qb,trivial⟩ ?_
       rintro _ fy ⟨dE,a8⟩
       have gN:=a8.size
       refine kM a8<|Qi ?_
       have K_194:Kz [] w7 fy:=((((((Kz.gr (Kz.refl _ _) am).gr bx).gr bz).gr a6).md a7).md a8)
       have dF:=((bW.md a7 (Qt I)).md a8 (Qm a4))
       have dG:=(dC.md a8)
       exact⟨rfl,⟨fv,aB,ab,aC,aD,cB⟩,Qh,hm,dF,⟨(Qk (A:=(fun x=>w7.heap.size≤x)) I)⟩,dG,(by omega),dE,(by omega),⟨(Qk (A:=(fun x=>x≠aB)) I)⟩,(by omega),⟨(Kq (A:=(fun x=>x≠cB)) a4)⟩,K_194⟩
     refine Xo<|qz [] rfl (Qz (cs:=[wv 0#64]) Ox rfl) ⟨fun _=>Qb,trivial⟩ ?_
     rintro _ h9 ⟨cC,rfl,fz,bX,bA⟩
     have gO:=bA.size
     have fA:=bX.lt
     refine kG bA ?_
     obtain⟨fB,dH,hm⟩:=Qd hm
     refine qz [] rfl (eC Mn rfl (Ut dH)) ⟨fun _=>Qb,trivial⟩ ?_
     rintro ad ia ⟨_,aE,aF,rfl,J,j,ba⟩
     have gP:=ba.size
     have fC:=J.lth
     refine kG ba ?_
     have dI:=((a2.gr bA).gr ba)
     refine qz [(1,aB)] rfl (Js (cs':=[ad]) (Lp).siz rfl rfl (Qe.oneB J) dI rfl rfl) ⟨fun _=>Qb,trivial⟩ ?_
     rintro _ ib ⟨dJ,bb⟩
     have gQ:=bb.size
     refine kM bb ?_
     have dK:=((bX.gr ba).md bb)
     refine qz [(1,cC)] rfl (Js (cs':=[wv p1.Group.Q]) (Lq).siz rfl rfl rfl dK rfl rfl) ⟨fun _=>Qb,trivial⟩ ?_
     rintro _ fD ⟨dL,bc⟩
     have gR:=bc.size
     refine kM bc<|Qi ?_
     have K_205:Kz [] w7 fD:=((((((Kz.gr (Kz.refl _ _) am).gr bx).gr bA).gr ba).md bb).md bc)
     have dM:=((J.md bb (Qt j)).md bc (Qt j))
     have dN:=(dJ.md bc)
     exact⟨rfl,⟨fB,aB,ad,aE,aF,cC⟩,Qh,hm,dM,⟨(Qk (A:=(fun x=>w7.heap.size≤x)) j)⟩,dN,(by omega),dL,(by omega),⟨(Qk (A:=(fun x=>x≠aB)) j)⟩,(by omega),⟨(Qk (A:=(fun x=>x≠cC)) j)⟩,K_205⟩
   refine Zt<|qz [] rfl (Qz (cs:=[wv 0#64]) Ox rfl) ⟨fun _=>Qb,trivial⟩ ?_
   rintro _ ie ⟨aG,rfl,fE,bd,bB⟩
   have gS:=bB.size
   have fF:=bd.lt
   refine kG bB<|Zs ?_ ?_
   · refine Xo ?_
     obtain⟨fG,dO,hm⟩:=Qd hm
     refine qz [] rfl (eC Mn rfl (Ut dO)) ⟨fun _=>Qb,trivial⟩ ?_
     rintro ae ig ⟨_,aH,aI,rfl,af,K,bC⟩
     have gT:=bC.size
     have be:=af.lth
     refine kG bC<|qz [] rfl (Qz (cs:=[(.slice none 0 0)]) Ow rfl) ⟨fun _=>Qb,trivial⟩ ?_
     rintro _ ih ⟨cD,rfl,fH,bY,bf⟩
     have gU:=bf.size
     have fI:=bY.lt
     refine kG bf ?_
     have bZ:=(af.gr bf)
     refine qz [(1,cD)] rfl (Js (cs':=[ae]) (Lp).siz rfl rfl (Qe.oneB bZ) bY rfl rfl) ⟨fun _=>Qb,trivial⟩ ?_
     rintro _ ii ⟨dP,bg⟩
     have gV:=bg.size
     refine kM bg ?_
     have dQ:=(((bd.gr bC).gr bf).md bg)
     refine qz [(1,aG)] rfl (Js (cs':=[wv p1.Group.Q]) (Lq).siz rfl rfl rfl dQ rfl rfl) ⟨fun _=>Qb,trivial⟩ ?_
     rintro _ fJ ⟨dR,bh⟩
     have gW:=bh.size
     refine kM bh<|Qi ?_
     have K_218:Kz [] w7 fJ:=((((((Kz.gr (Kz.refl _ _) am).gr bB).gr bC).gr bf).md bg).md bh)
     have dS:=((bZ.md bg (Qm be)).md bh (Qt K))
     have dT:=(dP.md bh)
     exact⟨rfl,⟨fG,cD,ae,aH,aI,aG⟩,Qh,hm,dS,⟨(Qk (A:=(fun x=>w7.heap.size≤x)) K)⟩,dT,(by omega),dR,(by omega),⟨(Kq (A:=(fun x=>x≠cD)) be)⟩,(by omega),⟨(Qk (A:=(fun x=>x≠aG)) K)⟩,K_218⟩
   refine Xo<|qz [] rfl (Qz (cs:=[(.slice none 0 0)]) Ow rfl) ⟨fun _=>Qb,trivial⟩ ?_
   rintro _ ij ⟨cE,rfl,fK,b0,bD⟩
   have gX:=bD.size
   have fL:=b0.lt
   refine kG bD ?_
   obtain⟨fM,dU,hm⟩:=Qd hm
   refine qz [] rfl (eC Mn rfl (Ut dU)) ⟨fun _=>Qb,trivial⟩ ?_
   rintro ag ik ⟨_,aJ,aK,rfl,L,n,bi⟩
   have gY:=bi.size
   have fN:=L.lth
   refine kG bi ?_
   have dV:=(b0.gr bi)
   refine qz [(1,cE)] rfl (Js (cs':=[ag]) (Lp).siz rfl rfl (Qe.oneB L) dV rfl rfl) ⟨fun _=>Qb,trivial⟩ ?_
   rintro _ il ⟨dW,bj⟩
   have gZ:=bj.size
   refine kM bj ?_
   have dX:=(((bd.gr bD).gr bi).md bj)
   refine qz [(1,aG)] rfl (Js (cs':=[wv p1.Group.Q]) (Lq).siz rfl rfl rfl dX rfl rfl) ⟨fun _=>Qb,trivial⟩ ?_
   rintro _ fO ⟨dY,bk⟩
   have g0:=bk.size
   refine kM bk<|Qi ?_
   have K_229:Kz [] w7 fO:=((((((Kz.gr (Kz.refl _ _) am).gr bB).gr bD).gr bi).md bj).md bk)
   have dZ:=((L.md bj (Qt n)).md bk (Qt n))
   have d0:=(dW.md bk)
   exact⟨rfl,⟨fM,cE,ag,aJ,aK,aG⟩,Qh,hm,dZ,⟨(Qk (A:=(fun x=>w7.heap.size≤x)) n)⟩,d0,(by omega),dY,(by omega),⟨(Qk (A:=(fun x=>x≠cE)) n)⟩,(by omega),⟨(Qk (A:=(fun x=>x≠aG)) n)⟩,K_229⟩
 clear hm;rintro⟨a9,bq8,vy10,zy10,gy10,bq11⟩ im ⟨hm,aw,e0,O,e1,P,e2,e3,e4,e5,an⟩
 have io:=an.size
 have t:=aw.lth
 have g1:=O.lt
 have g2:=P.lt
 unfold Qhq at hm
 refine Qj<|dw [([])] [] (.leaf [(0,10),(1,10),(3,10),(4,10),(5,10),(6,10),(2,0),(7,0),(8,10),(9,10)]) ?_
 intro fP cF g3
 refine Xo ?_
 have Y5:=Gr.trans (Gr.trans G2 Y1) G5
 have fQ:=((((cp.gr Y5).kz K7).kz an).gr cF)
 refine dh 0 rfl rfl (fun w hS=>Qu Qy rfl (Bx.kp fQ hS) rfl)<|dm 0 rfl rfl<|dh 0 rfl rfl (fun w hS=>Qg Pt rfl)<|dh 0 rfl rfl (fun w hS=>Qg Tx rfl) ?_
 have bE:=((cw.kz an).gr cF)
 refine dh 0 rfl rfl (fun w hS=>Ql (v:=wv p1.Group.Q) Zh rfl (Bx.kp bE hS) rfl)<|dh 0 rfl rfl (fun w hS=>Qe7 (a:=p1.Group.Q) (b:=1#64) rfl rfl)<|qz [] rfl (eC Wn rfl (Wm p0 (Xr 41#8) (Wf _) (Wc _) p4 _)) ⟨fun _=>Qb,trivial⟩ ?_
 rintro _ ip ⟨rfl,cG⟩
 have iq:=cG.size
 refine kG cG ?_
 obtain⟨fR,d1,hm⟩:=Qd hm
 refine qz [] rfl (eC Qkd rfl (Qjj d1)) ⟨fun _=>Qb,trivial⟩ ?_
 rintro _ bF ⟨rfl,cH⟩
 have ir:=cH.size
 refine kG cH ?_
 have Y6:=Gr.trans cG cH
 have d2:=((Kp.refl ([]) fP).gr Y6)
 refine qh 0 rfl rfl d2 (fun w hS=>Eg (a:=1#64) (b:=fR) rfl rfl)<|dn 0 rfl rfl d2<|Qa ?_
 have Y7:=Gr.trans cF Y6
 have fS:=((fi.kz an).trans Y7)
 refine qj (β:=BitVec 64 × Nat × Value × Nat × Nat × Value × Nat × Nat) ([17]++rg 79 9) (fun⟨M,bq13,vy15,zy15,gy15,vy16,zy16,gy16⟩=>[(17,.pointer (some ⟨bq13,0,none⟩))]) (fun⟨M,bq13,vy15,zy15,gy15,vy16,zy16,gy16⟩ wr=>(Qhr p1 p2 p3 a9 M=some r)∧Qe wr zy15 gy15 195 18 vy15 ([].map Zc.cs)∧Xk (zy15=0∨bF.heap.size≤gy15)∧Qe wr zy16 gy16 65 2 vy16 ([].map Qx.cs)∧Xk (zy16=0∨bF.heap.size≤gy16)∧Bx wr bq13 53 (Qq.cs (Qq.mk [] M [] k0 (Ki p3 (Xr 53#8) 0#64)) vy15 vy16)∧bF.heap.size≤bq13∧Xk (zy16=0∨zy15=0∨gy16≠gy15)∧Xk (zy15=0∨gy15≠bq13)∧Xk (zy16=0∨gy16≠bq13)∧Kz [] bF wr) ?_ ?_
 · refine dw [([])] [] (.fork [(0,10),(1,10),(2,10),(3,10),(4,10),(6,10)] (.fork [(5,0)] (.leaf [(7,0),(8,10),(9,0),(10,0)]) (.leaf [(9,0),(7,0),(8,10),(10,0)])) (.leaf [(9,0),(5,0),(7,0),(8,10),(10,0)])) ?_
   intro cI bl g4
   refine Zt ?_
   have b5:=((bE.gr Y6).gr bl)
   refine dh 0 rfl rfl (fun w hS=>Qu Jr rfl (Bx.kp b5 hS) rfl)<|dh 0 rfl rfl (fun w hS=>Qg Pt rfl)<|dh 0 rfl rfl (fun w hS=>Qg Qce rfl)<|dh 0 rfl rfl (fun w hS=>Ql (v:=wv p1.Group.G) Zh rfl (Bx.kp b5 hS) rfl)<|dm 0 rfl rfl ?_
   have Y8:=Gr.trans G4 G5
   have d3:=(((((cq.gr Y8).kz K7).kz an).gr Y7).gr bl)
   refine dh 0 rfl rfl (fun w hS=>Qu Qy rfl (Bx.kp d3 hS) rfl)<|Zs ?_ ?_
   · refine Zt ?_
     obtain⟨bG,d4,hm⟩:=Qd hm
     refine qz [] rfl (eC Ag rfl (Oa d4)) ⟨fun _=>Qb,trivial⟩ ?_
     rintro _ it ⟨rfl,aL⟩
     have g5:=aL.size
     refine kG aL<|Zs ?_ ?_
     · refine Xo<|qz [] rfl (eC Wn rfl (Wm p3 (Xr 53#8) (Wf _) (Wc _) 0#64 _)) ⟨fun _=>Qb,trivial⟩ ?_
       rintro _ iu ⟨rfl,bH⟩
       have g6:=bH.size
       refine kG bH ?_
       have d5:=(((Kp.refl ([]) cI).gr aL).gr bH)
       refine qh 0 rfl rfl d5 (fun w hS=>Zk (cs:=Qq.cs (Qq.mk [] bG [] k0 (Ki p3 (Xr 53#8) 0#64)) (.slice none 0 0) (.slice none 0 0)) Hs rfl (by obtain⟨cJ,au⟩:=Bf (Ki p3 (Xr 53#8) 0#64);rw[←au];exact(Wa rfl rfl rfl (Wa rfl rfl rfl (by kernel_rfl)))))<|qz [] rfl (Qz (cs:=Qq.cs (Qq.mk [] 0#64 [] k0 k0) (.slice none 0 0) (.slice none 0 0)) Gl rfl) ⟨fun _=>Qb,trivial⟩ ?_
       rintro _ iv ⟨d6,rfl,fT,b6,cK⟩
       have g7:=cK.size
       have fU:=b6.lt
       refine kG cK<|qz [(1,d6)] rfl (Qr Jw rfl rfl (Qq.cs_ones _ _ _ rfl rfl) b6 rfl rfl) ⟨fun _=>Qb,trivial⟩ ?_
       rintro _ iw ⟨d7,cL⟩
       have g8:=cL.size
       refine kM cL<|Qi ?_
       exact⟨rfl,⟨bG,d6,(.slice none 0 0),0,0,(.slice none 0 0),0,0⟩,Qh,hm,(Za _ 0 195 18),⟨(.inl rfl)⟩,(Za _ 0 65 2),⟨(.inl rfl)⟩,d7,(by omega),⟨(.inl rfl)⟩,⟨.inl rfl⟩,⟨.inl rfl⟩,(((((Xi.gr bl).gr aL).gr bH).gr cK).md cL)⟩
     refine Xo<|qz [] rfl (Qz (cs:=Qq.cs (Qq.mk [] 0#64 [] k0 k0) (.slice none 0 0) (.slice none 0 0)) Gl rfl) ⟨fun _=>Qb,trivial⟩ ?_
     rintro _ ix ⟨d8,rfl,fV,b7,bI⟩
     have g9:=bI.size
     have fW:=b7.lt
     refine kG bI<|qz [] rfl (eC Wn rfl (Wm p3 (Xr 53#8) (Wf _) (Wc _) 0#64 _)) ⟨fun _=>Qb,trivial⟩ ?_
     rintro _ iy ⟨rfl,bm⟩
     have ha:=bm.size
     refine kG bm ?_
     have d9:=((((Kp.refl ([]) cI).gr aL).gr bI).gr bm)
     refine qh 0 rfl rfl d9 (fun w hS=>Zk (cs:=Qq.cs (Qq.mk [] bG [] k0 (Ki p3 (Xr 53#8) 0#64)) (.slice none 0 0) (.slice none 0 0)) Hs rfl (by obtain⟨cJ,au⟩:=Bf (Ki p3 (Xr 53#8) 0#64);rw[←au];exact(Wa rfl rfl rfl (Wa rfl rfl rfl (by kernel_rfl))))) ?_
     have ea:=(b7.gr bm)
     refine qz [(1,d8)] rfl (Qr Jw rfl rfl (Qq.cs_ones _ _ _ rfl rfl) ea rfl rfl) ⟨fun _=>Qb,trivial⟩ ?_
     rintro _ iz ⟨eb,cM⟩
     have hc:=cM.size
     refine kM cM<|Qi ?_
     exact⟨rfl,⟨bG,d8,(.slice none 0 0),0,0,(.slice none 0 0),0,0⟩,Qh,hm,(Za _ 0 195 18),⟨(.inl rfl)⟩,(Za _ 0 65 2),⟨(.inl rfl)⟩,eb,(by omega),⟨(.inl rfl)⟩,⟨.inl rfl⟩,⟨.inl rfl⟩,(((((Xi.gr bl).gr aL).gr bI).gr bm).md cM)⟩
   refine Xo<|qz [] rfl (Qz (cs:=Qq.cs (Qq.mk [] 0#64 [] k0 k0) (.slice none 0 0) (.slice none 0 0)) Gl rfl) ⟨fun _=>Qb,trivial⟩ ?_
   rintro _ iA ⟨ec,rfl,fX,b8,bJ⟩
   have hd:=bJ.size
   have fY:=b8.lt
   refine kG bJ ?_
   obtain⟨ed,ee,hm⟩:=Qd hm
   refine qz [] rfl (eC Ag rfl (Oa ee)) ⟨fun _=>Qb,trivial⟩ ?_
   rintro _ iB ⟨rfl,bn⟩
   have he:=bn.size
   refine kG bn<|qz [] rfl (eC Wn rfl (Wm p3 (Xr 53#8) (Wf _) (Wc _) 0#64 _)) ⟨fun _=>Qb,trivial⟩ ?_
   rintro _ iC ⟨rfl,bo⟩
   have hf:=bo.size
   refine kG bo ?_
   have ef:=((((Kp.refl ([]) cI).gr bJ).gr bn).gr bo)
   refine qh 0 rfl rfl ef (fun w hS=>Zk (cs:=Qq.cs (Qq.mk [] ed [] k0 (Ki p3 (Xr 53#8) 0#64)) (.slice none 0 0) (.slice none 0 0)) Hs rfl (by obtain⟨cJ,au⟩:=Bf (Ki p3 (Xr 53#8) 0#64);rw[←au];exact(Wa rfl rfl rfl (Wa rfl rfl rfl (by kernel_rfl))))) ?_
   have eg:=((b8.gr bn).gr bo)
   refine qz [(1,ec)] rfl (Qr Jw rfl rfl (Qq.cs_ones _ _ _ rfl rfl) eg rfl rfl) ⟨fun _=>Qb,trivial⟩ ?_
   rintro _ iD ⟨eh,cN⟩
   have hg:=cN.size
   refine kM cN<|Qi ?_
   exact⟨rfl,⟨ed,ec,(.slice none 0 0),0,0,(.slice none 0 0),0,0⟩,Qh,hm,(Za _ 0 195 18),⟨(.inl rfl)⟩,(Za _ 0 65 2),⟨(.inl rfl)⟩,eh,(by omega),⟨(.inl rfl)⟩,⟨.inl rfl⟩,⟨.inl rfl⟩,(((((Xi.gr bl).gr bJ).gr bn).gr bo).md cN)⟩
 clear hm;rintro⟨M,bq13,vy15,zy15,gy15,vy16,zy16,gy16⟩ iE ⟨hm,ax,ay,az,f,aA,e6,D,E,p,F⟩
 have iG:=F.size
 have ao:=ax.lth
 have N:=az.lth
 have hh:=aA.lt
 unfold Qhr at hm
 refine qs 3 rfl<|qv rfl (Da rfl rfl)<|qe rfl (Qz Qxa rfl) ?_
 rintro _ iH ⟨av,rfl,fZ,b9,y⟩
 have iI:=y.size
 have hi:=b9.lt
 refine qe rfl (Js (Qcz).siz rfl rfl rfl b9 rfl rfl) ?_
 rintro _ aM ⟨bp,z⟩
 have iJ:=z.size
 refine qd 2 rfl<|qv rfl (Da rfl rfl)<|qm rfl<|Qa<|Qj ?_
 refine qs 3 rfl<|qm rfl ?_
 have cO:=(((((dd.kz an).gr Y7).kz F).gr y).md z (Qm aU))
 refine qv rfl (Zx (l:=p2) (c:=ic) Tryz.underlying45 rfl cO)<|qm rfl<|Qa<|Xz ?_
 have f0:=(((fS.kz F).trans y).md z)
 have ei:=((((aw.gr Y7).kz F).gr y).md z (Qm t))
 have ej:=((ax.gr y).md z (Qm ao))
 have f1:=((az.gr y).md z (Qm N))
 have f2:=((aA.gr y).md z)
 refine Kb (α:=Nat × Int × List Qx × Value × Nat × Nat) ([21]++rg 92 9) (fun⟨n5,ah,ap,vy22,zy22,gy22⟩=>[(92,.int .i64 ah)]) (fun⟨n5,ah,ap,vy22,zy22,gy22⟩ wr=>(Xq (Qd4 p1 p2 p3 a9 M) n5 (ah,ap)=some r)∧Qe wr zy22 gy22 65 2 vy22 (ap.map Qx.cs)∧Xk (zy22=0∨(gy22=gy16∧zy16≠0)∨aM.heap.size≤gy22)∧Bx wr bq13 53 (Qq.cs (Qq.mk [] M ap k0 (Ki p3 (Xr 53#8) 0#64)) vy15 vy22)∧Kz [(1,bq13),(zy16,gy16)] aM wr) (fun⟨n5,ah,ap,vy22,zy22,gy22⟩=>n5) ⟨Ze,0,[],vy16,zy16,gy16⟩ ?_ ?_ ?_
 · exact Qh
 · exact⟨hm,f1,⟨Qb⟩,f2,Kz.refl _ _⟩
 clear hm;rintro⟨n5,ah,ap,vy22,zy22,gy22⟩ aN ⟨hm,ai,d,aj,h⟩
 have iK:=h.size
 have hj:=ai.lth
 have hk:=aj.lt
 have hb:=Kd hm;clear hm;obtain⟨n5,rfl,hm⟩:=hb
 generalize cP:Xq (Qd4 p1 p2 p3 a9 M) n5=hl at hm
 unfold Qd4 at hm
 try dsimp only at hm
 refine qs 1 rfl<|qv rfl (Jb (a:=ah) (b:=(p2.length:Int)) rfl rfl)<|Qa<|Qj<|Zv hm rfl (fun c8 hm=>?_) (fun c8 hm=>?_)
 · refine qu<|Qj<|Xz<|qs 3 rfl ?_
   obtain⟨bq,ca,hm⟩:=Qd hm
   have ek:=(cO.kz h (Jt ((Kh (Qk (A:=(fun x=>zp2=0∨x≠gp2)) f (fun x hx=>(Qc aU.o)))):zp2=0∨zy16=0∨gp2≠gy16) (Qm (b:=bq13) aU)))
   refine qv rfl (Vm (i:=ah) Tryz.underlying45 (Xm).siz rfl ek rfl ca)<|qv rfl (Pz (q:=0) (u:=.int .i64 bq) Xm rfl ek ca (by first|rfl|omega) rfl)<|qm rfl<|Qa<|qg 4 rfl<|qn 2 rfl ?_
   refine qv rfl (Zy (k:=.i64) (a:=bq) (b:=1) rfl rfl)<|Lr 16 Tryz.func225 rfl rfl rfl Qke rfl rfl rfl rfl rfl<|dw [([bq13]++zf zy22 gy22),([]++zf zy22 gy22)] [(12,[1])] (.leaf [(0,10),(1,11),(2,10),(3,10),(4,10),(5,10),(6,10),(7,0),(8,10),(9,0),(10,0),(11,10),(12,0)]) ?_
   intro T ak hn
   refine Xo<|qh 0 rfl rfl (Kp.refl ([bq13]++zf zy22 gy22) T) (fun w hS=>Qg Yk rfl) ?_
   have cQ:=(aj.gr ak)
   refine qh 1 rfl rfl (Kp.refl ([]++zf zy22 gy22) T) (fun w hS=>Ql (v:=vy22) Yi rfl (Bx.kp cQ hS (Qc (Qf (b:=bq13) d (Qc p.o)))) rfl)<|dn 0 rfl rfl (Kp.refl ([bq13]++zf zy22 gy22) T)<|qh 0 rfl rfl (Kp.refl ([bq13]++zf zy22 gy22) T) (fun w hS=>Yr Yw rfl) ?_
   have f3:=((bp.kz h (Qc (Qm (b:=av) N))).gr ak)
   refine qh 0 rfl rfl (Kp.refl ([bq13]++zf zy22 gy22) T) (fun w hS=>Ql Qcz rfl (Bx.kp f3 hS (Qc (Qf (b:=av) d (Qm N)))) rfl)<|dn 0 rfl rfl (Kp.refl ([bq13]++zf zy22 gy22) T)<|qh 0 rfl rfl (Kp.refl ([bq13]++zf zy22 gy22) T) (fun w hS=>Yr Yw rfl) ?_
   have f4:=((((((bE.gr Y6).kz F).gr y).md z).kz h (Qc (Qt (b:=b2) f))).gr ak)
   have f5:=((ej.kz h (Jt ((Qc D.o):zy15=0∨zy16=0∨gy15≠gy16) ((Qc E.o):zy15=0∨gy15≠bq13))).gr ak)
   have el:=(ai.gr ak)
   have f6:=((((((O.gr Y7).kz F).gr y).md z).kz h (Qc (Qt (b:=bq8) f))).gr ak)
   have f7:=((ei.kz h (Jt ((Kh (Qk (A:=(fun x=>zy10=0∨x≠gy10)) f (fun x hx=>(Qc t.o)))):zy10=0∨zy16=0∨gy10≠gy16) (Qm (b:=bq13) t))).gr ak)
   have f8:=((((((P.gr Y7).kz F).gr y).md z).kz h (Qc (Qt (b:=bq11) f))).gr ak)
   obtain⟨cR,em,hm⟩:=Qd hm
   refine qz [] rfl (Vk Qfl rfl rfl (Qhp em f4 cQ (Qe.rd f5) (Qe.rd el) f6 (Qe.rd f7) f8)) ⟨fun _=>Qb,fun _=>Qb,trivial⟩ ?_
   rintro _ iL ⟨rfl,aO⟩
   have iM:=aO.size
   refine kG aO ?_
   have en:=((Kp.refl ([bq13]++zf zy22 gy22) T).gr aO)
   refine qh 0 rfl rfl en (fun w hS=>Zk (cs:=Qx.cs (Qx.mk (wd (Qp (bq+1))) cR)) Cs rfl rfl)<|qz [] rfl (Ko [(Qx.mk (wd (Qp (bq+1))) cR)] Qx.cs Rc rfl rfl (Ks rfl) rfl rfl rfl) ⟨fun _=>Qb,fun _=>Qb,trivial⟩ ?_
   rintro ho iN ⟨hp,f9,cb,aP⟩
   have iO:=aP.size
   have hq:=cb.lth
   refine kG aP ?_
   have ga:=((el.gr aO).gr aP)
   obtain⟨eo,ep,hm⟩:=Qd hm
   refine qz [(zy22,gy22)] rfl (Wo (l:=ap) (m:=[(Qx.mk (wd (Qp (bq+1))) cR)]) (c:=Qx.cs) Lz rfl rfl ga (Qe.rd cb) ep (by decide)) ⟨fun _=>(Qc (Qb:zy22=0∨(gy22=gy22∧zy22≠0)∨T.heap.size≤gy22)),fun _=>(Qc (Qb:zy22=0∨(gy22=gy22∧zy22≠0)∨T.heap.size≤gy22)),trivial⟩ ?_
   rintro cc iP ⟨er,es,cd,aq,hr,ce⟩
   have iQ:=aq.size
   refine⟨Kz.ofKa aq,?_⟩
   have gb:=((en.gr aP).ka aq (Qc (Qb:zy22=0∨(gy22=gy22∧zy22≠0)∨T.heap.size≤gy22)))
   refine qh 0 rfl rfl gb (fun w hS=>Qg Yk rfl) ?_
   have gc:=(((cQ.gr aO).gr aP).ka aq (Qc (Qf (b:=bq13) d (Qc p.o))))
   refine qz [(1,bq13)] rfl (Js (cs':=Qq.cs (Qq.mk [] M eo k0 (Ki p3 (Xr 53#8) 0#64)) vy15 cc) (Yi).siz rfl rfl (Qe.oneB cd) gc rfl rfl) ⟨fun _=>Qb,nofun,trivial⟩ ?_
   rintro _ gf ⟨et,bK⟩
   have iR:=bK.size
   refine kM bK<|Qi<|⟨_,_,rfl,Ph rfl,?_⟩
   refine Qi<|Zo<|Zg<|qg 2 rfl<|qv rfl (Zy (k:=.i64) (a:=ah) (b:=1) rfl rfl)<|qm rfl<|Qi ?_
   have K_80:Kz [(1,bq13),(zy16,gy16)] aM gf:=(((((h.gr ak).gr aO).gr aP).ka aq (Qc (Qv (A:=(fun x=>(x=gy16∧zy16≠0)∨aM.heap.size≤x)) d Qb))).md bK)
   have gg:=(cd.md bK (Bt ce (Qf d (Qc p.o))))
   subst cP
   exact⟨rfl,⟨n5,Qp (ah+1),eo,cc,er,es⟩,Qh,⟨hm,gg,⟨(Yp (A:=(fun x=>(x=gy16∧zy16≠0)∨aM.heap.size≤x)) ce (Qv (A:=(fun x=>(x=gy16∧zy16≠0)∨aM.heap.size≤x)) d Qb))⟩,et,K_80⟩,Nat.lt_succ_self _⟩
 refine Jl<|Zd<|Zd<|Jk<|Zg<|Qj<|Qj ?_
 refine qg 5 rfl<|qv rfl (Qg Ga rfl) ?_
 have eu:=(((((bE.gr Y6).kz F).gr y).md z).kz h (Qc (Qt (b:=b2) f)))
 refine qv rfl (Ql (v:=.int .i64 p1.Depth) Xm rfl eu rfl) ?_
 obtain⟨nn26,hnn26,hm⟩:=Qd hm
 refine qv rfl (Ef (a:=1) (b:=p1.Depth) rfl rfl hnn26)<|qv rfl (Zy (k:=.i64) (a:=Hb 1 nn26) (b:=1) rfl rfl)<|qm rfl<|Qa<|Xz ?_
 have gh:=(f0.kz h (Qc (Qk (A:=(fun x=>w.heap.size≤x)) f)))
 have iS:=(cO.kz h (Jt ((Kh (Qk (A:=(fun x=>zp2=0∨x≠gp2)) f (fun x hx=>(Qc aU.o)))):zp2=0∨zy16=0∨gp2≠gy16) (Qm (b:=bq13) aU)))
 have ew:=(ei.kz h (Jt ((Kh (Qk (A:=(fun x=>zy10=0∨x≠gy10)) f (fun x hx=>(Qc t.o)))):zy10=0∨zy16=0∨gy10≠gy16) (Qm (b:=bq13) t)))
 have ex:=(ej.kz h (Jt ((Qc D.o):zy15=0∨zy16=0∨gy15≠gy16) ((Qc E.o):zy15=0∨gy15≠bq13)))
 refine Kb (α:=Nat × Int × List Qx × Value × Nat × Nat) ([22]++rg 105 11) (fun⟨n6,W,X,vy32,zy32,gy32⟩=>[(22,.int .i64 W)]) (fun⟨n6,W,X,vy32,zy32,gy32⟩ wr=>(Xq (Qd5 p1 p3 a9 M) n6 (W,X)=some r)∧Qe wr zy32 gy32 65 2 vy32 (X.map Qx.cs)∧Xk (zy32=0∨(gy32=gy22∧zy22≠0)∨aN.heap.size≤gy32)∧Bx wr bq13 53 (Qq.cs (Qq.mk [] M X k0 (Ki p3 (Xr 53#8) 0#64)) vy15 vy32)∧Kz [(1,bq13),(zy22,gy22)] aN wr) (fun⟨n6,W,X,vy32,zy32,gy32⟩=>n6) ⟨Ze,Qp ((Hb 1 nn26)+1),ap,vy22,zy22,gy22⟩ ?_ ?_ ?_
 · exact Qh
 · exact⟨hm,ai,⟨Qb⟩,aj,Kz.refl _ _⟩
 clear hm;rintro⟨n6,W,X,vy32,zy32,gy32⟩ iU ⟨hm,R,g,S,C⟩
 have iV:=C.size
 have ht:=R.lth
 have hu:=S.lt
 have hb:=Kd hm;clear hm;obtain⟨n6,rfl,hm⟩:=hb
 generalize cS:Xq (Qd5 p1 p3 a9 M) n6=hw at hm
 unfold Qd5 at hm
 try dsimp only at hm
 refine Qj<|qs 6 rfl<|qv rfl (Qg Yk rfl)<|qv rfl (Ql (v:=vy32) Yi rfl S rfl)<|qv rfl (Zx (l:=X) (c:=Qx.cs) Tryz.underlying51 rfl (Qe.rd R))<|qv rfl (Qg Bh rfl) ?_
 have cT:=(eu.kz C (Qc (Qf (b:=b2) d (Qt f))))
 refine qv rfl (Ql (v:=.int .i64 p1.Degree) Xm rfl cT rfl)<|qv rfl (Jb (a:=(X.length:Int)) (b:=p1.Degree) rfl rfl)<|Qa<|Zv hm rfl (fun c9 hm=>?_) (fun c9 hm=>?_)
 · refine qu<|Qj<|Xz<|qg 3 rfl<|qn 2 rfl ?_
   refine Lr 16 Tryz.func225 rfl rfl rfl Qke rfl rfl rfl rfl rfl<|dw [([bq13]++zf zy32 gy32),([]++zf zy32 gy32)] [(12,[1])] (.leaf [(0,10),(1,11),(2,10),(3,10),(4,10),(5,10),(6,10),(7,0),(8,10),(9,0),(10,0),(11,10),(12,0)]) ?_
   intro U al hy
   refine Xo<|qh 0 rfl rfl (Kp.refl ([bq13]++zf zy32 gy32) U) (fun w hS=>Qg Yk rfl) ?_
   have cU:=(S.gr al)
   refine qh 1 rfl rfl (Kp.refl ([]++zf zy32 gy32) U) (fun w hS=>Ql (v:=vy32) Yi rfl (Bx.kp cU hS (Qc (Qf (b:=bq13) g (Qf d (Qc p.o))))) rfl)<|dn 0 rfl rfl (Kp.refl ([bq13]++zf zy32 gy32) U)<|qh 0 rfl rfl (Kp.refl ([bq13]++zf zy32 gy32) U) (fun w hS=>Yr Yw rfl) ?_
   have gi:=(((bp.kz h (Qc (Qm (b:=av) N))).kz C (Qc (Qf (b:=av) d (Qm N)))).gr al)
   refine qh 0 rfl rfl (Kp.refl ([bq13]++zf zy32 gy32) U) (fun w hS=>Ql Qcz rfl (Bx.kp gi hS (Qc (Qf (b:=av) g (Qf d (Qm N))))) rfl)<|dn 0 rfl rfl (Kp.refl ([bq13]++zf zy32 gy32) U)<|qh 0 rfl rfl (Kp.refl ([bq13]++zf zy32 gy32) U) (fun w hS=>Yr Yw rfl) ?_
   have gj:=(cT.gr al)
   have gk:=((ex.kz C (Jt ((Kh (Qv (A:=(fun x=>zy15=0∨x≠gy15)) d (Qc D.o) (fun x hx=>(Qc ao.o)))):zy15=0∨zy22=0∨gy15≠gy22) ((Qc E.o):zy15=0∨gy15≠bq13))).gr al)
   have ey:=(R.gr al)
   have gl:=(((((((O.gr Y7).kz F).gr y).md z).kz h (Qc (Qt (b:=bq8) f))).kz C (Qc (Qf (b:=bq8) d (Qt f)))).gr al)
   have gm:=((ew.kz C (Jt ((Kh (Qv (A:=(fun x=>zy10=0∨x≠gy10)) d (Qk (A:=(fun x=>zy10=0∨x≠gy10)) f (fun x hx=>(Qc t.o))) (fun x hx=>(Qc t.o)))):zy10=0∨zy22=0∨gy10≠gy22) (Qm (b:=bq13) t))).gr al)
   have gn:=(((((((P.gr Y7).kz F).gr y).md z).kz h (Qc (Qt (b:=bq11) f))).kz C (Qc (Qf (b:=bq11) d (Qt f)))).gr al)
   obtain⟨cV,ez,hm⟩:=Qd hm
   refine qz [] rfl (Vk Qfl rfl rfl (Qhp ez gj cU (Qe.rd gk) (Qe.rd ey) gl (Qe.rd gm) gn)) ⟨fun _=>Qb,fun _=>Qb,trivial⟩ ?_
   rintro _ iW ⟨rfl,aQ⟩
   have iX:=aQ.size
   refine kG aQ ?_
   have cf:=((Kp.refl ([bq13]++zf zy32 gy32) U).gr aQ)
   refine qh 0 rfl rfl cf (fun w hS=>Zk (cs:=Qx.cs (Qx.mk (wd W) cV)) Cs rfl rfl)<|qz [] rfl (Ko [(Qx.mk (wd W) cV)] Qx.cs Rc rfl rfl (Ks rfl) rfl rfl rfl) ⟨fun _=>Qb,fun _=>Qb,trivial⟩ ?_
   rintro hz iY ⟨hA,go,cg,aR⟩
   have hB:=aR.size
   have gp:=cg.lth
   refine kG aR ?_
   have eA:=((ey.gr aQ).gr aR)
   obtain⟨eB,eD,hm⟩:=Qd hm
   refine qz [(zy32,gy32)] rfl (Wo (l:=X) (m:=[(Qx.mk (wd W) cV)]) (c:=Qx.cs) Lz rfl rfl eA (Qe.rd cg) eD (by decide)) ⟨fun _=>(Qc (Qb:zy32=0∨(gy32=gy32∧zy32≠0)∨U.heap.size≤gy32)),fun _=>(Qc (Qb:zy32=0∨(gy32=gy32∧zy32≠0)∨U.heap.size≤gy32)),trivial⟩ ?_
   rintro ch iZ ⟨eE,eF,ci,ar,hC,cj⟩
   have hD:=ar.size
   refine⟨Kz.ofKa ar,?_⟩
   have eG:=((cf.gr aR).ka ar (Qc (Qb:zy32=0∨(gy32=gy32∧zy32≠0)∨U.heap.size≤gy32)))
   refine qh 0 rfl rfl eG (fun w hS=>Qg Yk rfl) ?_
   have eH:=(((cU.gr aQ).gr aR).ka ar (Qc (Qf (b:=bq13) g (Qf d (Qc p.o)))))
   refine qz [(1,bq13)] rfl (Js (cs':=Qq.cs (Qq.mk [] M eB k0 (Ki p3 (Xr 53#8) 0#64)) vy15 ch) (Yi).siz rfl rfl (Qe.oneB ci) eH rfl rfl) ⟨fun _=>Qb,nofun,trivial⟩ ?_
   rintro _ gq ⟨eI,bL⟩
   have hE:=bL.size
   refine kM bL<|Qi<|⟨_,_,rfl,Ph rfl,?_⟩
   refine Qi<|Zo<|Zg<|qg 3 rfl<|qm rfl<|qv rfl (Zy (k:=.i64) (a:=W) (b:=1) rfl rfl)<|qm rfl ?_
   refine Qi ?_
   have K_108:Kz [(1,bq13),(zy22,gy22)] aN gq:=(((((C.gr al).gr aQ).gr aR).ka ar (Qc (Qv (A:=(fun x=>(x=gy22∧zy22≠0)∨aN.heap.size≤x)) g Qb))).md bL)
   have eJ:=(ci.md bL (Bt cj (Qf g (Qf d (Qc p.o)))))
   subst cS
   exact⟨rfl,⟨n6,Qp (W+1),eB,ch,eE,eF⟩,Qh,⟨hm,eJ,⟨(Yp (A:=(fun x=>(x=gy22∧zy22≠0)∨aN.heap.size≤x)) cj (Qv (A:=(fun x=>(x=gy22∧zy22≠0)∨aN.heap.size≤x)) g Qb))⟩,eI,K_108⟩,Nat.lt_succ_self _⟩
 refine Jl<|Zd<|Zd<|Jk<|Zg<|Qj<|dw [([bq13])] [] (.leaf [(0,10),(3,10),(1,0),(2,0),(4,0),(5,10),(6,0)]) ?_
 intro gs V hF
 refine Xo ?_
 have eK:=(((bp.kz h (Qc (Qm (b:=av) N))).kz C (Qc (Qf (b:=av) d (Qm N)))).gr V)
 refine dh 0 rfl rfl (fun w hS=>Ql Qcz rfl (Bx.kp eK hS) rfl) ?_
 have Y9:=Gr.trans G4 G5
 have eL:=((((((((((cq.gr Y9).kz K7).kz an).gr Y7).kz F).gr y).md z).kz h (Qc (Qt (b:=b3) f))).kz C (Qc (Qf (b:=b3) d (Qt f)))).gr V)
 refine dh 0 rfl rfl (fun w hS=>Qu Qy rfl (Bx.kp eL hS) rfl) ?_
 have eM:=(cT.gr V)
 have ck:=(S.gr V)
 have cl:=((ex.kz C (Jt ((Kh (Qv (A:=(fun x=>zy15=0∨x≠gy15)) d (Qc D.o) (fun x hx=>(Qc ao.o)))):zy15=0∨zy22=0∨gy15≠gy22) ((Qc E.o):zy15=0∨gy15≠bq13))).gr V)
 have cm:=(R.gr V)
 have eN:=(((((((O.gr Y7).kz F).gr y).md z).kz h (Qc (Qt (b:=bq8) f))).kz C (Qc (Qf (b:=bq8) d (Qt f)))).gr V)
 have eO:=((ew.kz C (Jt ((Kh (Qv (A:=(fun x=>zy10=0∨x≠gy10)) d (Qk (A:=(fun x=>zy10=0∨x≠gy10)) f (fun x hx=>(Qc t.o))) (fun x hx=>(Qc t.o)))):zy10=0∨zy22=0∨gy10≠gy22) (Qm (b:=bq13) t))).gr V)
 have eP:=(((((((P.gr Y7).kz F).gr y).md z).kz h (Qc (Qt (b:=bq11) f))).kz C (Qc (Qf (b:=bq11) d (Qt f)))).gr V)
 obtain⟨i0,eQ,hm⟩:=Qd hm
 refine qz [] rfl (Vk Qfl rfl rfl (Qhp eQ eM ck (Qe.rd cl) (Qe.rd cm) eN (Qe.rd eO) eP)) ⟨fun _=>Qb,trivial⟩ ?_
 rintro _ i1 ⟨rfl,cW⟩
 have hG:=cW.size
 refine kG cW ?_
 obtain⟨bM,eR,hm⟩:=Qd hm
 refine qz [] rfl (eC Qfk rfl (Qhy eR)) ⟨fun _=>Qb,trivial⟩ ?_
 rintro _ i2 ⟨rfl,cX⟩
 have hH:=cX.size
 refine kG cX<|qz [] rfl (eC Mm rfl (Al bM p3 _)) ⟨fun _=>Qb,trivial⟩ ?_
 rintro _ i3 ⟨rfl,cY⟩
 have hI:=cY.size
 refine kG cY ?_
 have aS:=Gr.trans (Gr.trans cW cX) cY
 have eS:=((Kp.refl ([bq13]) gs).gr aS)
 refine qh 0 rfl rfl eS (fun w hS=>Qg Gc rfl) ?_
 have eT:=(ck.gr aS)
 refine qz [(1,bq13)] rfl (Hv (cs':=Qq.cs (Qq.mk [] M X (Pp bM p3) (Ki p3 (Xr 53#8) 0#64)) vy15 vy32) (vs:=kb (Pp bM p3)) (Qy).siz rfl rfl rfl rfl rfl eT rfl (by obtain⟨cJ,au⟩:=Bf (Ki p3 (Xr 53#8) 0#64);rw[←au];obtain⟨i4,gu⟩:=Bf (Pp bM p3);rw[←gu];first|done|rfl)) ⟨fun _=>Qb,trivial⟩ ?_
 rintro _ i5 ⟨eU,aT⟩
 have hJ:=aT.size
 refine kM aT<|qd 3 rfl<|qv rfl (Qu Jw rfl eU rfl) ?_
 have eV:=((((((((((((aV.gr G5).kz K7).kz an).gr Y7).kz F).gr y).md z).kz h (Qc (Qt (b:=b4) f))).kz C (Qc (Qf (b:=b4) d (Qt f)))).gr V).gr aS).md aT)
 have cn:=((cl.gr aS).md aT (Qc ((Qc E.o):zy15=0∨gy15≠bq13)))
 have co:=((cm.gr aS).md aT (Qf g (Qf d (Qc p.o))))
 refine qe rfl (Qr Jw rfl rfl (Qq.cs_ones _ _ _ (Qe.oneB cn) (Qe.oneB co)) eV rfl rfl) ?_
 rintro _ i6 ⟨eW,bN⟩
 have hK:=bN.size
 refine qm rfl<|Qa<|Qs ?_
 have eX:=(cn.md bN (Qt ay))
 have eY:=(co.md bN (Qf g (Qf d (Qt f))))
 have eZ:=(((((gh.kz C (Qc (Qv (A:=(fun x=>w.heap.size≤x)) d (Qk (A:=(fun x=>w.heap.size≤x)) f)))).trans V).trans aS).md aT).md bN)
 cases hm
 exact⟨_,_,rfl,Xy rfl (Zf Jw rfl eW rfl) (Qn rfl),vy15,zy15,gy15,vy32,zy32,gy32,rfl,eX,⟨(Qk (A:=(fun x=>w.heap.size≤x)) ay)⟩,eY,⟨(Qv (A:=(fun x=>w.heap.size≤x)) g (Qv (A:=(fun x=>w.heap.size≤x)) d (Qk (A:=(fun x=>w.heap.size≤x)) f)))⟩,⟨(Qv (A:=(fun x=>zy15=0∨x≠gy15)) g (Qv (A:=(fun x=>zy15=0∨x≠gy15)) d (Qc D.o) (fun x hx=>(Qc ao.o))) (fun x hx=>(Qc ao.o)))⟩,eZ⟩
end Go.Proofs.YtplcaaglieefgaaGreat.Mx
