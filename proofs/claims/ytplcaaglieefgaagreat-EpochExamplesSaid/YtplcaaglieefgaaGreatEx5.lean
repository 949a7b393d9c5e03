/- Walks that follow mirrors: Ex5. Printed by mx.py. -/
import Derived.Test.YtplcaaglieefgaaGreatXh
import Derived.Test.YtplcaaglieefgaaGreatZd
set_option linter.unusedVariables false
set_option linter.unusedSimpArgs false
set_option maxRecDepth 100000
set_option maxHeartbeats 40000000
namespace Go.Proofs.YtplcaaglieefgaaGreat.Mx
open Go Go.RowKit Go.Sx
theorem Qr3:En Tryz.prog 39:=fun _ _=>by kernel_rfl
theorem Qq6:En Tryz.prog 13:=fun _ _=>by kernel_rfl
theorem Qr4:En Tryz.prog 41:=fun _ _=>by kernel_rfl
theorem Qt8 {r}(hm:Qcl=some r){w:World}:
 Calls Tryz.prog 7 [].toArray w fun e w'=>∃ v,e=.returned v∧(v=.bool r∧Gr w w'):=by
 unfold Qcl at hm
 refine Xu 257 Tryz.func7 rfl rfl rfl<|qs 1 rfl<|qm rfl<|qd 3 rfl ?_
 obtain⟨x1,u0,hm⟩:=Qd hm
 refine qe rfl (eC Jh rfl (Ji u0)) ?_
 rintro _ w1 ⟨rfl,G1⟩
 have z1:=G1.size
 refine qe rfl (Qz (cs:=Zi.cs (Zi.mk 0 0 0 0 0)) Qiw rfl) ?_
 rintro _ w2 ⟨b2,rfl,y2,oI,G2⟩
 have z2:=G2.size
 have EL:=oI.lt
 refine qe rfl (Qr Ya rfl rfl rfl oI rfl rfl) ?_
 rintro _ w3 ⟨u1,M3⟩
 have z4:=M3.size
 refine qd 2 rfl<|qv rfl (Qg De rfl)<|qe rfl (Js (cs':=Zi.cs (Zi.mk x1.Epoch x1.Word x1.Early 15 x1.Delay)) (Xm).siz rfl rfl rfl u1 rfl rfl) ?_
 rintro _ w4 ⟨u2,M4⟩
 have z5:=M4.size
 refine qd 7 rfl ?_
 obtain⟨x2,u3,hm⟩:=Qd hm
 refine qe rfl (eC Jh rfl (Ji u3)) ?_
 rintro _ w5 ⟨rfl,G5⟩
 have z6:=G5.size
 obtain⟨x3,u4,hm⟩:=Qd hm
 refine qe rfl (eC Qb8 rfl (Qbq u4)) ?_
 rintro _ w6 ⟨rfl,G6⟩
 have z7:=G6.size
 refine qn 5 rfl<|Qa<|Qj ?_
 refine qg 7 rfl ?_
 obtain⟨x4,u5,hm⟩:=Qd hm
 refine qe rfl (eC Jh rfl (Ji u5)) ?_
 rintro _ w7 ⟨rfl,G7⟩
 have z8:=G7.size
 obtain⟨x5,u6,hm⟩:=Qd hm
 refine qe rfl (eC Qb8 rfl (Qbq u6)) ?_
 rintro _ w8 ⟨rfl,G8⟩
 have z9:=G8.size
 refine qn 5 rfl<|Qa<|Qj ?_
 refine qg 7 rfl ?_
 obtain⟨x6,u7,hm⟩:=Qd hm
 refine qe rfl (eC Jh rfl (Ji u7)) ?_
 rintro _ w9 ⟨rfl,G9⟩
 have EM:=G9.size
 obtain⟨x7,u8,hm⟩:=Qd hm
 refine qe rfl (eC Qb8 rfl (Qbq u8)) ?_
 rintro _ EN ⟨rfl,oJ⟩
 have EO:=oJ.size
 refine qn 5 rfl<|Qa<|Qj ?_
 refine qg 7 rfl ?_
 obtain⟨x8,u9,hm⟩:=Qd hm
 refine qe rfl (eC Jh rfl (Ji u9)) ?_
 rintro _ EP ⟨rfl,oK⟩
 have EQ:=oK.size
 obtain⟨x9,va,hm⟩:=Qd hm
 refine qe rfl (eC Qb9 rfl (Qbl va)) ?_
 rintro _ ER ⟨rfl,oL⟩
 have ES:=oL.size
 refine qn 5 rfl<|Qa<|Qj ?_
 refine qg 7 rfl ?_
 obtain⟨ET,oM,hm⟩:=Qd hm
 refine qe rfl (eC Jh rfl (Ji oM)) ?_
 rintro _ EU ⟨rfl,oN⟩
 have EW:=oN.size
 obtain⟨vb,oO,hm⟩:=Qd hm
 refine qe rfl (eC Qb9 rfl (Qbl oO)) ?_
 rintro _ EX ⟨rfl,oP⟩
 have EY:=oP.size
 refine qn 5 rfl<|Qa<|Qj ?_
 refine qg 7 rfl ?_
 obtain⟨EZ,oQ,hm⟩:=Qd hm
 refine qe rfl (eC Jh rfl (Ji oQ)) ?_
 rintro _ E0 ⟨rfl,oR⟩
 have E1:=oR.size
 obtain⟨oS,oT,hm⟩:=Qd hm
 refine qe rfl (eC Qb9 rfl (Qbl oT)) ?_
 rintro _ vc ⟨rfl,oU⟩
 have E2:=oU.size
 refine qn 5 rfl<|Qa<|Qj ?_
 have Y1:=Gr.trans (Gr.trans (Gr.trans (Gr.trans (Gr.trans (Gr.trans (Gr.trans (Gr.trans (Gr.trans (Gr.trans (Gr.trans G5 G6) G7) G8) G9) oJ) oK) oL) oN) oP) oR) oU
 have oV:=((((((Gr.refl w).trans G1).trans G2).md M3).md M4).trans Y1)
 refine qj (β:=Bool) (rg 54 47) (fun jJ=>[(100,.bool jJ)]) (fun jJ wr=>(Pv jJ=some r)∧Kz [] vc wr) ?_ ?_
 · refine qg 47 rfl<|qm rfl ?_
   obtain⟨y3,me,hm⟩:=Qd hm
   refine qe rfl (eC Qr3 rfl (Qt9 me)) ?_
   rintro _ y4 ⟨rfl,s⟩
   have y5:=s.size
   refine qv rfl (Jj rfl)<|qm rfl<|Pw hm rfl (Qw rfl) (fun vd hm=>?_) (fun vd hm=>?_)
   · refine qn 7 rfl ?_
     refine qn 7 rfl ?_
     refine qn 7 rfl ?_
     refine qn 7 rfl ?_
     refine qn 7 rfl ?_
     refine qn 7 rfl ?_
     refine Qi ?_
     exact⟨rfl,true,Qh,hm,(Xi.gr s)⟩
   have oW:=((u2.gr Y1).gr s)
   refine qv rfl (Qu Ya rfl oW rfl) ?_
   obtain⟨oX,mf,hm⟩:=Qd hm
   refine qe rfl (eC Mp rfl (Mq mf)) ?_
   rintro _ y6 ⟨rfl,z⟩
   have y7:=z.size
   refine qv rfl (Zp (a:=oX) (b:=50) rfl rfl)<|qm rfl<|Zm hm rfl (Qw rfl) (fun ve hm=>?_) (fun ve hm=>?_)
   · refine qn 7 rfl ?_
     refine qn 7 rfl ?_
     refine qn 7 rfl ?_
     refine qn 7 rfl ?_
     refine qn 7 rfl ?_
     refine qn 2 rfl<|Qi ?_
     have Y2:=Gr.trans s z
     exact⟨rfl,true,Qh,hm,(Xi.gr Y2)⟩
   refine qm rfl<|qv rfl (Zp (a:=x3.2) (b:=0) rfl rfl)<|qm rfl<|Zm hm rfl (Qw rfl) (fun vf hm=>?_) (fun vf hm=>?_)
   · refine qn 7 rfl ?_
     refine qn 7 rfl ?_
     refine qn 7 rfl ?_
     refine qn 7 rfl ?_
     refine qn 5 rfl<|Qi ?_
     have Y3:=Gr.trans s z
     exact⟨rfl,true,Qh,hm,(Xi.gr Y3)⟩
   refine qm rfl<|qv rfl (Zp (a:=x3.1) (b:=10) rfl rfl)<|qm rfl<|Zm hm rfl (Qw rfl) (fun vg hm=>?_) (fun vg hm=>?_)
   · refine qn 7 rfl ?_
     refine qn 7 rfl ?_
     refine qn 7 rfl ?_
     refine qn 7 rfl ?_
     refine qm rfl<|Qi ?_
     have Y4:=Gr.trans s z
     exact⟨rfl,true,Qh,hm,(Xi.gr Y4)⟩
   refine qm rfl<|qv rfl (Zp (a:=x5.2) (b:=51) rfl rfl)<|qm rfl<|Zm hm rfl (Qw rfl) (fun vh hm=>?_) (fun vh hm=>?_)
   · refine qn 7 rfl ?_
     refine qn 7 rfl ?_
     refine qn 7 rfl ?_
     refine qn 4 rfl<|Qi ?_
     have Y5:=Gr.trans s z
     exact⟨rfl,true,Qh,hm,(Xi.gr Y5)⟩
   refine qm rfl<|qv rfl (Zp (a:=x7.2) (b:=2) rfl rfl)<|qm rfl<|Zm hm rfl (Qw rfl) (fun vi hm=>?_) (fun vi hm=>?_)
   · refine qn 7 rfl ?_
     refine qn 7 rfl ?_
     refine qn 7 rfl ?_
     refine Qi ?_
     have Y6:=Gr.trans s z
     exact⟨rfl,true,Qh,hm,(Xi.gr Y6)⟩
   refine qm rfl<|qv rfl (Zp (a:=x9.2) (b:=0) rfl rfl)<|qm rfl<|Zm hm rfl (Qw rfl) (fun vj hm=>?_) (fun vj hm=>?_)
   · refine qn 7 rfl ?_
     refine qn 7 rfl ?_
     refine qn 3 rfl<|Qi ?_
     have Y7:=Gr.trans s z
     exact⟨rfl,true,Qh,hm,(Xi.gr Y7)⟩
   refine qn 2 rfl<|Pw hm rfl (Qw rfl) (fun vk hm=>?_) (fun vk hm=>?_)
   · refine qn 7 rfl ?_
     refine qn 7 rfl ?_
     refine Qi ?_
     have Y8:=Gr.trans s z
     exact⟨rfl,true,Qh,hm,(Xi.gr Y8)⟩
   refine qm rfl<|qv rfl (Zp (a:=vb.2) (b:=0) rfl rfl)<|qm rfl<|Zm hm rfl (Qw rfl) (fun vl hm=>?_) (fun vl hm=>?_)
   · refine qn 7 rfl ?_
     refine qn 3 rfl<|Qi ?_
     have Y9:=Gr.trans s z
     exact⟨rfl,true,Qh,hm,(Xi.gr Y9)⟩
   refine qm rfl<|qv rfl (Jj rfl)<|qm rfl<|Pw hm rfl (Qw rfl) (fun vm hm=>?_) (fun vm hm=>?_)
   · refine qn 6 rfl<|Qi ?_
     have vn:=Gr.trans s z
     exact⟨rfl,true,Qh,hm,(Xi.gr vn)⟩
   refine qm rfl<|qv rfl (Zp (a:=oS.2) (b:=0) rfl rfl)<|qm rfl<|Zm hm rfl (Qw rfl) (fun vo hm=>?_) (fun vo hm=>?_)
   · refine qn 2 rfl<|Qi ?_
     have vp:=Gr.trans s z
     exact⟨rfl,true,Qh,hm,(Xi.gr vp)⟩
   refine qn 2 rfl<|Qi ?_
   have vq:=Gr.trans s z
   exact⟨rfl,oS.1,Qh,hm,(Xi.gr vq)⟩
 clear hm;rintro jJ E3 ⟨hm,mg⟩
 have E4:=mg.size
 unfold Pv at hm
 refine Zw hm rfl (fun c1 hm=>?_) (fun c1 hm=>?_)
 · refine qs 1 rfl<|qm rfl<|qb ?_
   have vr:=(oV.kz mg)
   cases hm
   exact⟨_,_,rfl,Xj rfl (Qn rfl),rfl,vr⟩
 refine qu<|qs 3 rfl<|qv rfl (Ea (cs:=kb (648518346341351424#64,0#64)) Qj3 rfl (by kernel_rfl))<|qe rfl (Qz (cs:=kb k0) Jq rfl) ?_
 rintro _ E5 ⟨E6,rfl,vs,lp,oY⟩
 have E7:=oY.size
 have y8:=lp.lt
 refine qe rfl (Qr Qy rfl rfl rfl lp rfl rfl) ?_
 rintro _ d ⟨gG,oZ⟩
 have E8:=oZ.size
 refine Qa ?_
 have vt:=(((oV.kz mg).trans oY).md oZ)
 refine qj (β:=Int × Qo × Nat × Value × Nat × Nat × Value × Nat × Nat × Value × Nat × Nat) ([3,15]++rg 102 8) (fun⟨cV,n,bq16,vy18,zy18,gy18,vy19,zy19,gy19,vy20,zy20,gy20⟩=>[(3,.int .i64 cV),(15,.pointer (some ⟨bq16,0,none⟩))]) (fun⟨cV,n,bq16,vy18,zy18,gy18,vy19,zy19,gy19,vy20,zy20,gy20⟩ wr=>(Qgw cV n=some r)∧Qe wr zy18 gy18 195 18 vy18 (n.Head.Items.map Zc.cs)∧Xk (zy18=0∨d.heap.size≤gy18)∧Qe wr zy19 gy19 65 2 vy19 (n.Head.Points.map Qx.cs)∧Xk (zy19=0∨d.heap.size≤gy19)∧Qe wr zy20 gy20 5 1 vy20 (n.Data.map Xx)∧Xk (zy20=0∨d.heap.size≤gy20)∧Bx wr bq16 56 (Qo.cs n vy18 vy19 vy20)∧d.heap.size≤bq16∧Xk (zy19=0∨zy18=0∨gy19≠gy18)∧Xk (zy20=0∨zy18=0∨gy20≠gy18)∧Xk (zy20=0∨zy19=0∨gy20≠gy19)∧Xk (zy18=0∨gy18≠bq16)∧Xk (zy19=0∨gy19≠bq16)∧Xk (zy20=0∨gy20≠bq16)∧Kz [] d wr) ?_ ?_
 · refine dw [([])] [] (.fork [(0,10)] (.fork [(1,0)] (.fork [(2,0)] (.fork [(3,0)] (.leaf [(4,0),(5,10),(6,10),(7,10),(8,0),(9,0),(10,10)]) (.leaf [(8,0),(4,0),(5,10),(6,10),(7,10),(9,0),(10,10)])) (.leaf [(8,0),(3,0),(4,0),(5,10),(6,10),(7,10),(9,0),(10,10)])) (.leaf [(8,0),(2,0),(3,0),(4,0),(5,10),(6,10),(7,10),(9,0),(10,10)])) (.fork [] (.fork [(2,0)] (.fork [(1,0)] (.fork [(3,0)] (.leaf [(4,0),(5,10),(6,10),(7,10),(8,0),(9,0),(10,10)]) (.leaf [(8,0),(4,0),(5,10),(6,10),(7,10),(9,0),(10,10)])) (.leaf [(8,0),(3,0),(4,0),(5,10),(6,10),(7,10),(9,0),(10,10)])) (.fork [] (.fork [(3,0)] (.fork [(1,0)] (.leaf [(4,0),(5,10),(6,10),(7,10),(8,0),(9,0),(10,10)]) (.leaf [(8,0),(4,0),(5,10),(6,10),(7,10),(9,0),(10,10)])) (.leaf [(8,0),(1,0),(4,0),(5,10),(6,10),(7,10),(9,0),(10,10)])) (.fork [(8,0)] (.leaf [(1,0),(3,0),(4,0),(5,10),(6,10),(7,10),(9,0),(10,10)]) (.leaf [(3,0),(1,0),(4,0),(5,10),(6,10),(7,10),(9,0),(10,10)])))) (.fork [(8,0)] (.leaf [(1,0),(2,0),(3,0),(4,0),(5,10),(6,10),(7,10),(9,0),(10,10)]) (.fork [(2,0)] (.leaf [(1,0),(3,0),(4,0),(5,10),(6,10),(7,10),(9,0),(10,10)]) (.leaf [(3,0),(1,0),(4,0),(5,10),(6,10),(7,10),(9,0),(10,10)]))))) ?_
   intro f k vu
   refine Zt ?_
   have o0:=(gG.gr k)
   refine dh 0 rfl rfl (fun w hS=>Qu Qy rfl (Bx.kp o0 hS) rfl)<|Zs ?_ (Zt (Zs ?_ ?_))
   · refine Zt ?_
     obtain⟨E9,o1,hm⟩:=Qd hm
     refine qz [] rfl (eC Jh rfl (Ji o1)) ⟨fun _=>Qb,trivial⟩ ?_
     rintro _ y9 ⟨rfl,bC⟩
     have za:=bC.size
     refine kG bC<|Zs ?_ ?_
     · refine Zt<|qz [] rfl (Ko [97#8,98#8,99#8] Xx Gn rfl rfl (Ks rfl) rfl rfl rfl) ⟨fun _=>Qb,trivial⟩ ?_
       rintro vv zb ⟨t,ui,eB,ct⟩
       have zc:=ct.size
       have mh:=eB.lth
       refine kG ct<|Zs ?_ ?_
       · refine Zt<|qz [(1,t)] rfl (Yx Tryz.underlying54 Tryz.underlying5 rfl eB) ⟨fun _=>(Qc ((.inr Qb):1=0∨f.heap.size≤t)),trivial⟩ ?_
         rintro vw zd ⟨eD,bb⟩
         have ze:=bb.size
         have vx:=eD.lth
         refine⟨Kz.ofKa bb,?_⟩
         refine Zs ?_ ?_
         · refine Xo ?_
           obtain⟨o2,o3,hm⟩:=Qd hm
           refine qz [] rfl (eC Vg rfl (Vh o3 eD)) ⟨fun _=>Qb,trivial⟩ ?_
           rintro _ zg ⟨eE,eF,eG,eH,eI,eJ,cW,cX,cY,rfl,bK,eK,bL,eL,bD,cZ,jK,jL,jM,gH⟩
           have zh:=gH.size
           have iu:=bK.lth
           have iv:=bL.lth
           have iw:=bD.lth
           refine kG gH ?_
           have o4:=Gr.trans bC ct
           have gI:=((((Kp.refl ([]) f).gr o4).ka bb (Qc ((.inr Qb):1=0∨f.heap.size≤t))).gr gH)
           refine dn 0 rfl rfl gI<|dn 0 rfl rfl gI<|dn 0 rfl rfl gI<|qz [] rfl (Qz (cs:=Qo.cs (Qo.mk 0#8 0 (Qq.mk [] 0#64 [] k0 k0) 0#8 0#64 [] k0) (.slice none 0 0) (.slice none 0 0) (.slice none 0 0)) Km rfl) ⟨fun _=>Qb,trivial⟩ ?_
           rintro _ zi ⟨c0,rfl,uj,ix,bM⟩
           have zj:=bM.size
           have vy:=ix.lt
           refine kG bM ?_
           have lq:=(bK.gr bM)
           have lr:=(bL.gr bM)
           have ls:=(bD.gr bM)
           refine qz [(1,c0)] rfl (Qr Zl rfl rfl (Qo.cs_ones _ _ _ _ (Qe.oneB lq) (Qe.oneB lr) (Qe.oneB ls)) ix rfl rfl) ⟨fun _=>Qb,trivial⟩ ?_
           rintro _ o5 ⟨mj,bN⟩
           have zk:=bN.size
           refine kM bN ?_
           have o6:=((gI.gr bM).md bN)
           refine dn 0 rfl rfl o6<|Qi ?_
           have K_327:Kz [] d o5:=((((((Kz.gr (Kz.refl _ _) k).gr o4).ka bb (Qc ((.inr Qb):1=0∨d.heap.size≤t))).gr gH).gr bM).md bN)
           have o7:=(lq.md bN (Qm iu))
           have o8:=(lr.md bN (Qm iv))
           have o9:=(ls.md bN (Qm iw))
           exact⟨rfl,⟨o2.2,o2.1,c0,eE,eF,eG,eH,eI,eJ,cW,cX,cY⟩,Qh,hm,o7,⟨(Qk (A:=(fun x=>d.heap.size≤x)) eK)⟩,o8,⟨(Qk (A:=(fun x=>d.heap.size≤x)) eL)⟩,o9,⟨(Qk (A:=(fun x=>d.heap.size≤x)) cZ)⟩,mj,(by omega),⟨(Qc jK.o)⟩,⟨(Qc jL.o)⟩,⟨(Qc jM.o)⟩,⟨(Kq (A:=(fun x=>x≠c0)) iu)⟩,⟨(Kq (A:=(fun x=>x≠c0)) iv)⟩,⟨(Kq (A:=(fun x=>x≠c0)) iw)⟩,K_327⟩
         refine Xo<|qz [] rfl (Qz (cs:=Qo.cs (Qo.mk 0#8 0 (Qq.mk [] 0#64 [] k0 k0) 0#8 0#64 [] k0) (.slice none 0 0) (.slice none 0 0) (.slice none 0 0)) Km rfl) ⟨fun _=>Qb,trivial⟩ ?_
         rintro _ zl ⟨da,rfl,uk,iy,db⟩
         have zm:=db.size
         have vz:=iy.lt
         refine kG db ?_
         have pa:=(eD.gr db)
         obtain⟨pb,pc,hm⟩:=Qd hm
         refine qz [] rfl (eC Vg rfl (Vh pc pa)) ⟨fun _=>Qb,trivial⟩ ?_
         rintro _ zn ⟨eM,eN,eO,eP,eQ,eR,dc,dd,de,rfl,ai,aj,ak,al,D,E,jN,jO,jP,df⟩
         have zo:=df.size
         have vA:=ai.lth
         have vB:=ak.lth
         have vC:=D.lth
         refine kG df ?_
         have pd:=Gr.trans bC ct
         have gJ:=(((((Kp.refl ([]) f).gr pd).ka bb (Qc ((.inr Qb):1=0∨f.heap.size≤t))).gr db).gr df)
         refine dn 0 rfl rfl gJ<|dn 0 rfl rfl gJ<|dn 0 rfl rfl gJ ?_
         have pe:=(iy.gr df)
         refine qz [(1,da)] rfl (Qr Zl rfl rfl (Qo.cs_ones _ _ _ _ (Qe.oneB ai) (Qe.oneB ak) (Qe.oneB D)) pe rfl rfl) ⟨fun _=>Qb,trivial⟩ ?_
         rintro _ pf ⟨ml,bO⟩
         have zp:=bO.size
         refine kM bO ?_
         have pg:=(gJ.md bO)
         refine dn 0 rfl rfl pg<|Qi ?_
         have K_342:Kz [] d pf:=((((((Kz.gr (Kz.refl _ _) k).gr pd).ka bb (Qc ((.inr Qb):1=0∨d.heap.size≤t))).gr db).gr df).md bO)
         have ph:=(ai.md bO (Qt aj))
         have pi:=(ak.md bO (Qt al))
         have pj:=(D.md bO (Qt E))
         exact⟨rfl,⟨pb.2,pb.1,da,eM,eN,eO,eP,eQ,eR,dc,dd,de⟩,Qh,hm,ph,⟨(Qk (A:=(fun x=>d.heap.size≤x)) aj)⟩,pi,⟨(Qk (A:=(fun x=>d.heap.size≤x)) al)⟩,pj,⟨(Qk (A:=(fun x=>d.heap.size≤x)) E)⟩,ml,(by omega),⟨(Qc jN.o)⟩,⟨(Qc jO.o)⟩,⟨(Qc jP.o)⟩,⟨(Qk (A:=(fun x=>x≠da)) aj)⟩,⟨(Qk (A:=(fun x=>x≠da)) al)⟩,⟨(Qk (A:=(fun x=>x≠da)) E)⟩,K_342⟩
       refine Xo<|qz [] rfl (Qz (cs:=Qo.cs (Qo.mk 0#8 0 (Qq.mk [] 0#64 [] k0 k0) 0#8 0#64 [] k0) (.slice none 0 0) (.slice none 0 0) (.slice none 0 0)) Km rfl) ⟨fun _=>Qb,trivial⟩ ?_
       rintro _ zq ⟨cu,rfl,ul,iz,dg⟩
       have zr:=dg.size
       have vD:=iz.lt
       refine kG dg ?_
       have pk:=(eB.gr dg)
       refine qz [(1,t)] rfl (Yx Tryz.underlying54 Tryz.underlying5 rfl pk) ⟨fun _=>(Qc ((.inr Qb):1=0∨f.heap.size≤t)),trivial⟩ ?_
       rintro vE zs ⟨iA,bP⟩
       have zt:=bP.size
       have vF:=iA.lth
       refine⟨Kz.ofKa bP,?_⟩
       obtain⟨pl,pm,hm⟩:=Qd hm
       refine qz [] rfl (eC Vg rfl (Vh pm iA)) ⟨fun _=>Qb,trivial⟩ ?_
       rintro _ zu ⟨eS,eT,eU,eV,eW,eX,di,dj,dk,rfl,am,an,ao,ap,F,G,jQ,jR,jS,dl⟩
       have zv:=dl.size
       have vG:=am.lth
       have vH:=ao.lth
       have vI:=F.lth
       refine kG dl ?_
       have gK:=((((((Kp.refl ([]) f).gr bC).gr ct).gr dg).ka bP (Qc ((.inr Qb):1=0∨f.heap.size≤t))).gr dl)
       refine dn 0 rfl rfl gK<|dn 0 rfl rfl gK<|dn 0 rfl rfl gK ?_
       have pn:=((iz.ka bP (Qc (Qm (b:=cu) mh))).gr dl)
       refine qz [(1,cu)] rfl (Qr Zl rfl rfl (Qo.cs_ones _ _ _ _ (Qe.oneB am) (Qe.oneB ao) (Qe.oneB F)) pn rfl rfl) ⟨fun _=>Qb,trivial⟩ ?_
       rintro _ po ⟨mm,bQ⟩
       have zw:=bQ.size
       refine kM bQ ?_
       have pp:=(gK.md bQ)
       refine dn 0 rfl rfl pp<|Qi ?_
       have K_359:Kz [] d po:=(((((((Kz.gr (Kz.refl _ _) k).gr bC).gr ct).gr dg).ka bP (Qc ((.inr Qb):1=0∨d.heap.size≤t))).gr dl).md bQ)
       have pq:=(am.md bQ (Qt an))
       have pr:=(ao.md bQ (Qt ap))
       have pt:=(F.md bQ (Qt G))
       exact⟨rfl,⟨pl.2,pl.1,cu,eS,eT,eU,eV,eW,eX,di,dj,dk⟩,Qh,hm,pq,⟨(Qk (A:=(fun x=>d.heap.size≤x)) an)⟩,pr,⟨(Qk (A:=(fun x=>d.heap.size≤x)) ap)⟩,pt,⟨(Qk (A:=(fun x=>d.heap.size≤x)) G)⟩,mm,(by omega),⟨(Qc jQ.o)⟩,⟨(Qc jR.o)⟩,⟨(Qc jS.o)⟩,⟨(Qk (A:=(fun x=>x≠cu)) an)⟩,⟨(Qk (A:=(fun x=>x≠cu)) ap)⟩,⟨(Qk (A:=(fun x=>x≠cu)) G)⟩,K_359⟩
     refine Xo<|qz [] rfl (Qz (cs:=Qo.cs (Qo.mk 0#8 0 (Qq.mk [] 0#64 [] k0 k0) 0#8 0#64 [] k0) (.slice none 0 0) (.slice none 0 0) (.slice none 0 0)) Km rfl) ⟨fun _=>Qb,trivial⟩ ?_
     rintro _ zx ⟨cv,rfl,um,iB,gL⟩
     have zy:=gL.size
     have vJ:=iB.lt
     refine kG gL<|qz [] rfl (Ko [97#8,98#8,99#8] Xx Gn rfl rfl (Ks rfl) rfl rfl rfl) ⟨fun _=>Qb,trivial⟩ ?_
     rintro vK zz ⟨bR,uo,iC,dp⟩
     have zA:=dp.size
     have vL:=iC.lth
     refine kG dp<|qz [(1,bR)] rfl (Yx Tryz.underlying54 Tryz.underlying5 rfl iC) ⟨fun _=>(Qc ((.inr Qb):1=0∨f.heap.size≤bR)),trivial⟩ ?_
     rintro vM zB ⟨iD,bS⟩
     have zC:=bS.size
     have vN:=iD.lth
     refine⟨Kz.ofKa bS,?_⟩
     obtain⟨pu,pw,hm⟩:=Qd hm
     refine qz [] rfl (eC Vg rfl (Vh pw iD)) ⟨fun _=>Qb,trivial⟩ ?_
     rintro _ zD ⟨eY,eZ,e0,e1,e2,e3,dq,dr,ds,rfl,aq,ar,au,av,H,I,jT,jU,jV,dt⟩
     have zE:=dt.size
     have vO:=aq.lth
     have vP:=au.lth
     have vQ:=H.lth
     refine kG dt ?_
     have gM:=((((((Kp.refl ([]) f).gr bC).gr gL).gr dp).ka bS (Qc ((.inr Qb):1=0∨f.heap.size≤bR))).gr dt)
     refine dn 0 rfl rfl gM<|dn 0 rfl rfl gM<|dn 0 rfl rfl gM ?_
     have px:=(((iB.gr dp).ka bS (Qc ((.inr Qb):1=0∨bR≠cv))).gr dt)
     refine qz [(1,cv)] rfl (Qr Zl rfl rfl (Qo.cs_ones _ _ _ _ (Qe.oneB aq) (Qe.oneB au) (Qe.oneB H)) px rfl rfl) ⟨fun _=>Qb,trivial⟩ ?_
     rintro _ py ⟨mn,bT⟩
     have zF:=bT.size
     refine kM bT ?_
     have pz:=(gM.md bT)
     refine dn 0 rfl rfl pz<|Qi ?_
     have K_377:Kz [] d py:=(((((((Kz.gr (Kz.refl _ _) k).gr bC).gr gL).gr dp).ka bS (Qc ((.inr Qb):1=0∨d.heap.size≤bR))).gr dt).md bT)
     have pA:=(aq.md bT (Qt ar))
     have pB:=(au.md bT (Qt av))
     have pC:=(H.md bT (Qt I))
     exact⟨rfl,⟨pu.2,pu.1,cv,eY,eZ,e0,e1,e2,e3,dq,dr,ds⟩,Qh,hm,pA,⟨(Qk (A:=(fun x=>d.heap.size≤x)) ar)⟩,pB,⟨(Qk (A:=(fun x=>d.heap.size≤x)) av)⟩,pC,⟨(Qk (A:=(fun x=>d.heap.size≤x)) I)⟩,mn,(by omega),⟨(Qc jT.o)⟩,⟨(Qc jU.o)⟩,⟨(Qc jV.o)⟩,⟨(Qk (A:=(fun x=>x≠cv)) ar)⟩,⟨(Qk (A:=(fun x=>x≠cv)) av)⟩,⟨(Qk (A:=(fun x=>x≠cv)) I)⟩,K_377⟩
   · refine Zt<|qz [] rfl (Ko [97#8,98#8,99#8] Xx Gn rfl rfl (Ks rfl) rfl rfl rfl) ⟨fun _=>Qb,trivial⟩ ?_
     rintro vR zH ⟨g,uq,bc,m⟩
     have zI:=m.size
     have e4:=bc.lth
     refine kG m<|Zs ?_ (Zt (Zs ?_ ?_))
     · refine Zt ?_
       obtain⟨Fd,pD,hm⟩:=Qd hm
       refine qz [] rfl (eC Jh rfl (Ji pD)) ⟨fun _=>Qb,trivial⟩ ?_
       rintro _ zJ ⟨rfl,bE⟩
       have zK:=bE.size
       refine kG bE<|Zs ?_ ?_
       · refine Zt ?_
         have pE:=(bc.gr bE)
         refine qz [(1,g)] rfl (Yx Tryz.underlying54 Tryz.underlying5 rfl pE) ⟨fun _=>(Qc ((.inr Qb):1=0∨f.heap.size≤g)),trivial⟩ ?_
         rintro vS zL ⟨e5,bd⟩
         have zM:=bd.size
         have vT:=e5.lth
         refine⟨Kz.ofKa bd,?_⟩
         refine Zs ?_ ?_
         · refine Xo ?_
           obtain⟨pF,pG,hm⟩:=Qd hm
           refine qz [] rfl (eC Vg rfl (Vh pG e5)) ⟨fun _=>Qb,trivial⟩ ?_
           rintro _ zN ⟨e6,e7,e8,e9,fa,fb,du,dv,dy,rfl,bU,fc,bV,fd,bF,dz,jW,jX,jY,gN⟩
           have zO:=gN.size
           have iE:=bU.lth
           have iG:=bV.lth
           have iH:=bF.lth
           refine kG gN ?_
           have pH:=Gr.trans m bE
           have gO:=((((Kp.refl ([]) f).gr pH).ka bd (Qc ((.inr Qb):1=0∨f.heap.size≤g))).gr gN)
           refine dn 0 rfl rfl gO<|dn 0 rfl rfl gO<|dn 0 rfl rfl gO<|qz [] rfl (Qz (cs:=Qo.cs (Qo.mk 0#8 0 (Qq.mk [] 0#64 [] k0 k0) 0#8 0#64 [] k0) (.slice none 0 0) (.slice none 0 0) (.slice none 0 0)) Km rfl) ⟨fun _=>Qb,trivial⟩ ?_
           rintro _ zP ⟨dA,rfl,ur,iI,bW⟩
           have zQ:=bW.size
           have vU:=iI.lt
           refine kG bW ?_
           have lu:=(bU.gr bW)
           have lv:=(bV.gr bW)
           have lw:=(bF.gr bW)
           refine qz [(1,dA)] rfl (Qr Zl rfl rfl (Qo.cs_ones _ _ _ _ (Qe.oneB lu) (Qe.oneB lv) (Qe.oneB lw)) iI rfl rfl) ⟨fun _=>Qb,trivial⟩ ?_
           rintro _ pI ⟨mo,bX⟩
           have zR:=bX.size
           refine kM bX ?_
           have pJ:=((gO.gr bW).md bX)
           refine dn 0 rfl rfl pJ<|Qi ?_
           have K_399:Kz [] d pI:=((((((Kz.gr (Kz.refl _ _) k).gr pH).ka bd (Qc ((.inr Qb):1=0∨d.heap.size≤g))).gr gN).gr bW).md bX)
           have pK:=(lu.md bX (Qm iE))
           have pL:=(lv.md bX (Qm iG))
           have pM:=(lw.md bX (Qm iH))
           exact⟨rfl,⟨pF.2,pF.1,dA,e6,e7,e8,e9,fa,fb,du,dv,dy⟩,Qh,hm,pK,⟨(Qk (A:=(fun x=>d.heap.size≤x)) fc)⟩,pL,⟨(Qk (A:=(fun x=>d.heap.size≤x)) fd)⟩,pM,⟨(Qk (A:=(fun x=>d.heap.size≤x)) dz)⟩,mo,(by omega),⟨(Qc jW.o)⟩,⟨(Qc jX.o)⟩,⟨(Qc jY.o)⟩,⟨(Kq (A:=(fun x=>x≠dA)) iE)⟩,⟨(Kq (A:=(fun x=>x≠dA)) iG)⟩,⟨(Kq (A:=(fun x=>x≠dA)) iH)⟩,K_399⟩
         refine Xo<|qz [] rfl (Qz (cs:=Qo.cs (Qo.mk 0#8 0 (Qq.mk [] 0#64 [] k0 k0) 0#8 0#64 [] k0) (.slice none 0 0) (.slice none 0 0) (.slice none 0 0)) Km rfl) ⟨fun _=>Qb,trivial⟩ ?_
         rintro _ zS ⟨dB,rfl,us,iJ,dC⟩
         have zT:=dC.size
         have vV:=iJ.lt
         refine kG dC ?_
         have pN:=(e5.gr dC)
         obtain⟨pO,pP,hm⟩:=Qd hm
         refine qz [] rfl (eC Vg rfl (Vh pP pN)) ⟨fun _=>Qb,trivial⟩ ?_
         rintro _ zU ⟨fe,ff,fg,fh,fi,fj,dD,dE,dF,rfl,aw,ax,ay,az,J,K,jZ,j0,j1,dG⟩
         have zV:=dG.size
         have vW:=aw.lth
         have vX:=ay.lth
         have vY:=J.lth
         refine kG dG ?_
         have pQ:=Gr.trans m bE
         have gP:=(((((Kp.refl ([]) f).gr pQ).ka bd (Qc ((.inr Qb):1=0∨f.heap.size≤g))).gr dC).gr dG)
         refine dn 0 rfl rfl gP<|dn 0 rfl rfl gP<|dn 0 rfl rfl gP ?_
         have pR:=(iJ.gr dG)
         refine qz [(1,dB)] rfl (Qr Zl rfl rfl (Qo.cs_ones _ _ _ _ (Qe.oneB aw) (Qe.oneB ay) (Qe.oneB J)) pR rfl rfl) ⟨fun _=>Qb,trivial⟩ ?_
         rintro _ pS ⟨mp,bY⟩
         have zW:=bY.size
         refine kM bY ?_
         have pT:=(gP.md bY)
         refine dn 0 rfl rfl pT<|Qi ?_
         have K_414:Kz [] d pS:=((((((Kz.gr (Kz.refl _ _) k).gr pQ).ka bd (Qc ((.inr Qb):1=0∨d.heap.size≤g))).gr dC).gr dG).md bY)
         have pU:=(aw.md bY (Qt ax))
         have pV:=(ay.md bY (Qt az))
         have pW:=(J.md bY (Qt K))
         exact⟨rfl,⟨pO.2,pO.1,dB,fe,ff,fg,fh,fi,fj,dD,dE,dF⟩,Qh,hm,pU,⟨(Qk (A:=(fun x=>d.heap.size≤x)) ax)⟩,pV,⟨(Qk (A:=(fun x=>d.heap.size≤x)) az)⟩,pW,⟨(Qk (A:=(fun x=>d.heap.size≤x)) K)⟩,mp,(by omega),⟨(Qc jZ.o)⟩,⟨(Qc j0.o)⟩,⟨(Qc j1.o)⟩,⟨(Qk (A:=(fun x=>x≠dB)) ax)⟩,⟨(Qk (A:=(fun x=>x≠dB)) az)⟩,⟨(Qk (A:=(fun x=>x≠dB)) K)⟩,K_414⟩
       refine Xo<|qz [] rfl (Qz (cs:=Qo.cs (Qo.mk 0#8 0 (Qq.mk [] 0#64 [] k0 k0) 0#8 0#64 [] k0) (.slice none 0 0) (.slice none 0 0) (.slice none 0 0)) Km rfl) ⟨fun _=>Qb,trivial⟩ ?_
       rintro _ zX ⟨cw,rfl,ut,iK,dH⟩
       have zY:=dH.size
       have vZ:=iK.lt
       refine kG dH ?_
       have pX:=((bc.gr bE).gr dH)
       refine qz [(1,g)] rfl (Yx Tryz.underlying54 Tryz.underlying5 rfl pX) ⟨fun _=>(Qc ((.inr Qb):1=0∨f.heap.size≤g)),trivial⟩ ?_
       rintro v0 zZ ⟨iL,bZ⟩
       have z0:=bZ.size
       have v1:=iL.lth
       refine⟨Kz.ofKa bZ,?_⟩
       obtain⟨pY,pZ,hm⟩:=Qd hm
       refine qz [] rfl (eC Vg rfl (Vh pZ iL)) ⟨fun _=>Qb,trivial⟩ ?_
       rintro _ z3 ⟨fk,fl,fm,fn,fo,fp,dI,dJ,dK,rfl,aA,aB,aC,aD,L,M,j2,j3,j4,dL⟩
       have As:=dL.size
       have v2:=aA.lth
       have v3:=aC.lth
       have v4:=L.lth
       refine kG dL ?_
       have gQ:=((((((Kp.refl ([]) f).gr m).gr bE).gr dH).ka bZ (Qc ((.inr Qb):1=0∨f.heap.size≤g))).gr dL)
       refine dn 0 rfl rfl gQ<|dn 0 rfl rfl gQ<|dn 0 rfl rfl gQ ?_
       have p0:=((iK.ka bZ (Qc (Qm (b:=cw) e4))).gr dL)
       refine qz [(1,cw)] rfl (Qr Zl rfl rfl (Qo.cs_ones _ _ _ _ (Qe.oneB aA) (Qe.oneB aC) (Qe.oneB L)) p0 rfl rfl) ⟨fun _=>Qb,trivial⟩ ?_
       rintro _ p1 ⟨mq,b0⟩
       have At:=b0.size
       refine kM b0 ?_
       have p2:=(gQ.md b0)
       refine dn 0 rfl rfl p2<|Qi ?_
       have K_431:Kz [] d p1:=(((((((Kz.gr (Kz.refl _ _) k).gr m).gr bE).gr dH).ka bZ (Qc ((.inr Qb):1=0∨d.heap.size≤g))).gr dL).md b0)
       have p3:=(aA.md b0 (Qt aB))
       have p4:=(aC.md b0 (Qt aD))
       have p5:=(L.md b0 (Qt M))
       exact⟨rfl,⟨pY.2,pY.1,cw,fk,fl,fm,fn,fo,fp,dI,dJ,dK⟩,Qh,hm,p3,⟨(Qk (A:=(fun x=>d.heap.size≤x)) aB)⟩,p4,⟨(Qk (A:=(fun x=>d.heap.size≤x)) aD)⟩,p5,⟨(Qk (A:=(fun x=>d.heap.size≤x)) M)⟩,mq,(by omega),⟨(Qc j2.o)⟩,⟨(Qc j3.o)⟩,⟨(Qc j4.o)⟩,⟨(Qk (A:=(fun x=>x≠cw)) aB)⟩,⟨(Qk (A:=(fun x=>x≠cw)) aD)⟩,⟨(Qk (A:=(fun x=>x≠cw)) M)⟩,K_431⟩
     · refine Zt<|qz [(1,g)] rfl (Yx Tryz.underlying54 Tryz.underlying5 rfl bc) ⟨fun _=>(Qc ((.inr Qb):1=0∨f.heap.size≤g)),trivial⟩ ?_
       rintro v5 AA ⟨cH,N⟩
       have AB:=N.size
       have v6:=cH.lth
       refine⟨Kz.ofKa N,?_⟩
       refine Zs ?_ ?_
       · refine Zt ?_
         obtain⟨Fk,p6,hm⟩:=Qd hm
         refine qz [] rfl (eC Jh rfl (Ji p6)) ⟨fun _=>Qb,trivial⟩ ?_
         rintro _ AC ⟨rfl,bG⟩
         have AD:=bG.size
         refine kG bG<|Zs ?_ ?_
         · refine Xo ?_
           have p7:=(cH.gr bG)
           obtain⟨p8,p9,hm⟩:=Qd hm
           refine qz [] rfl (eC Vg rfl (Vh p9 p7)) ⟨fun _=>Qb,trivial⟩ ?_
           rintro _ AE ⟨fq,fr,fs,ft,fu,fv,dM,dN,dO,rfl,b1,fw,b3,fx,bH,dP,j5,j6,j7,gR⟩
           have AF:=gR.size
           have iM:=b1.lth
           have iN:=b3.lth
           have iO:=bH.lth
           refine kG gR ?_
           have gS:=(((((Kp.refl ([]) f).gr m).ka N (Qc ((.inr Qb):1=0∨f.heap.size≤g))).gr bG).gr gR)
           refine dn 0 rfl rfl gS<|dn 0 rfl rfl gS<|dn 0 rfl rfl gS<|qz [] rfl (Qz (cs:=Qo.cs (Qo.mk 0#8 0 (Qq.mk [] 0#64 [] k0 k0) 0#8 0#64 [] k0) (.slice none 0 0) (.slice none 0 0) (.slice none 0 0)) Km rfl) ⟨fun _=>Qb,trivial⟩ ?_
           rintro _ AG ⟨dQ,rfl,uu,iP,b4⟩
           have AH:=b4.size
           have v7:=iP.lt
           refine kG b4 ?_
           have lx:=(b1.gr b4)
           have ly:=(b3.gr b4)
           have lz:=(bH.gr b4)
           refine qz [(1,dQ)] rfl (Qr Zl rfl rfl (Qo.cs_ones _ _ _ _ (Qe.oneB lx) (Qe.oneB ly) (Qe.oneB lz)) iP rfl rfl) ⟨fun _=>Qb,trivial⟩ ?_
           rintro _ qa ⟨mr,b5⟩
           have AI:=b5.size
           refine kM b5 ?_
           have qc:=((gS.gr b4).md b5)
           refine dn 0 rfl rfl qc<|Qi ?_
           have K_451:Kz [] d qa:=(((((((Kz.gr (Kz.refl _ _) k).gr m).ka N (Qc ((.inr Qb):1=0∨d.heap.size≤g))).gr bG).gr gR).gr b4).md b5)
           have qf:=(lx.md b5 (Qm iM))
           have qi:=(ly.md b5 (Qm iN))
           have ql:=(lz.md b5 (Qm iO))
           exact⟨rfl,⟨p8.2,p8.1,dQ,fq,fr,fs,ft,fu,fv,dM,dN,dO⟩,Qh,hm,qf,⟨(Qk (A:=(fun x=>d.heap.size≤x)) fw)⟩,qi,⟨(Qk (A:=(fun x=>d.heap.size≤x)) fx)⟩,ql,⟨(Qk (A:=(fun x=>d.heap.size≤x)) dP)⟩,mr,(by omega),⟨(Qc j5.o)⟩,⟨(Qc j6.o)⟩,⟨(Qc j7.o)⟩,⟨(Kq (A:=(fun x=>x≠dQ)) iM)⟩,⟨(Kq (A:=(fun x=>x≠dQ)) iN)⟩,⟨(Kq (A:=(fun x=>x≠dQ)) iO)⟩,K_451⟩
         refine Xo<|qz [] rfl (Qz (cs:=Qo.cs (Qo.mk 0#8 0 (Qq.mk [] 0#64 [] k0 k0) 0#8 0#64 [] k0) (.slice none 0 0) (.slice none 0 0) (.slice none 0 0)) Km rfl) ⟨fun _=>Qb,trivial⟩ ?_
         rintro _ AJ ⟨dR,rfl,uv,iQ,dS⟩
         have AK:=dS.size
         have v8:=iQ.lt
         refine kG dS ?_
         have qo:=((cH.gr bG).gr dS)
         obtain⟨qA,qB,hm⟩:=Qd hm
         refine qz [] rfl (eC Vg rfl (Vh qB qo)) ⟨fun _=>Qb,trivial⟩ ?_
         rintro _ AL ⟨fy,fz,fA,fB,fC,fD,dT,dU,dV,rfl,aE,aF,aG,aH,O,P,j8,j9,kc,dW⟩
         have AM:=dW.size
         have v9:=aE.lth
         have wa:=aG.lth
         have wb:=O.lth
         refine kG dW ?_
         have gT:=((((((Kp.refl ([]) f).gr m).ka N (Qc ((.inr Qb):1=0∨f.heap.size≤g))).gr bG).gr dS).gr dW)
         refine dn 0 rfl rfl gT<|dn 0 rfl rfl gT<|dn 0 rfl rfl gT ?_
         have qC:=(iQ.gr dW)
         refine qz [(1,dR)] rfl (Qr Zl rfl rfl (Qo.cs_ones _ _ _ _ (Qe.oneB aE) (Qe.oneB aG) (Qe.oneB O)) qC rfl rfl) ⟨fun _=>Qb,trivial⟩ ?_
         rintro _ qD ⟨ms,b6⟩
         have AN:=b6.size
         refine kM b6 ?_
         have qE:=(gT.md b6)
         refine dn 0 rfl rfl qE<|Qi ?_
         have K_466:Kz [] d qD:=(((((((Kz.gr (Kz.refl _ _) k).gr m).ka N (Qc ((.inr Qb):1=0∨d.heap.size≤g))).gr bG).gr dS).gr dW).md b6)
         have qF:=(aE.md b6 (Qt aF))
         have qG:=(aG.md b6 (Qt aH))
         have qH:=(O.md b6 (Qt P))
         exact⟨rfl,⟨qA.2,qA.1,dR,fy,fz,fA,fB,fC,fD,dT,dU,dV⟩,Qh,hm,qF,⟨(Qk (A:=(fun x=>d.heap.size≤x)) aF)⟩,qG,⟨(Qk (A:=(fun x=>d.heap.size≤x)) aH)⟩,qH,⟨(Qk (A:=(fun x=>d.heap.size≤x)) P)⟩,ms,(by omega),⟨(Qc j8.o)⟩,⟨(Qc j9.o)⟩,⟨(Qc kc.o)⟩,⟨(Qk (A:=(fun x=>x≠dR)) aF)⟩,⟨(Qk (A:=(fun x=>x≠dR)) aH)⟩,⟨(Qk (A:=(fun x=>x≠dR)) P)⟩,K_466⟩
       refine Xo<|qz [] rfl (Qz (cs:=Qo.cs (Qo.mk 0#8 0 (Qq.mk [] 0#64 [] k0 k0) 0#8 0#64 [] k0) (.slice none 0 0) (.slice none 0 0) (.slice none 0 0)) Km rfl) ⟨fun _=>Qb,trivial⟩ ?_
       rintro _ AO ⟨dX,rfl,uw,iR,dY⟩
       have AP:=dY.size
       have wc:=iR.lt
       refine kG dY ?_
       obtain⟨AQ,mt,hm⟩:=Qd hm
       refine qz [] rfl (eC Jh rfl (Ji mt)) ⟨fun _=>Qb,trivial⟩ ?_
       rintro _ AR ⟨rfl,cx⟩
       have AS:=cx.size
       refine kG cx ?_
       have qI:=((cH.gr dY).gr cx)
       obtain⟨lA,mu,hm⟩:=Qd hm
       refine qz [] rfl (eC Vg rfl (Vh mu qI)) ⟨fun _=>Qb,trivial⟩ ?_
       rintro _ AT ⟨fE,fF,fG,fH,fI,fJ,dZ,d0,d1,rfl,aI,aJ,aK,aL,Q,R,kd,ke,kf,d2⟩
       have AU:=d2.size
       have we:=aI.lth
       have wf:=aK.lth
       have wg:=Q.lth
       refine kG d2 ?_
       have gU:=((((((Kp.refl ([]) f).gr m).ka N (Qc ((.inr Qb):1=0∨f.heap.size≤g))).gr dY).gr cx).gr d2)
       refine dn 0 rfl rfl gU<|dn 0 rfl rfl gU<|dn 0 rfl rfl gU ?_
       have qJ:=((iR.gr cx).gr d2)
       refine qz [(1,dX)] rfl (Qr Zl rfl rfl (Qo.cs_ones _ _ _ _ (Qe.oneB aI) (Qe.oneB aK) (Qe.oneB Q)) qJ rfl rfl) ⟨fun _=>Qb,trivial⟩ ?_
       rintro _ qK ⟨mv,b7⟩
       have AV:=b7.size
       refine kM b7 ?_
       have qL:=(gU.md b7)
       refine dn 0 rfl rfl qL<|Qi ?_
       have K_482:Kz [] d qK:=(((((((Kz.gr (Kz.refl _ _) k).gr m).ka N (Qc ((.inr Qb):1=0∨d.heap.size≤g))).gr dY).gr cx).gr d2).md b7)
       have qM:=(aI.md b7 (Qt aJ))
       have qN:=(aK.md b7 (Qt aL))
       have qO:=(Q.md b7 (Qt R))
       exact⟨rfl,⟨lA.2,lA.1,dX,fE,fF,fG,fH,fI,fJ,dZ,d0,d1⟩,Qh,hm,qM,⟨(Qk (A:=(fun x=>d.heap.size≤x)) aJ)⟩,qN,⟨(Qk (A:=(fun x=>d.heap.size≤x)) aL)⟩,qO,⟨(Qk (A:=(fun x=>d.heap.size≤x)) R)⟩,mv,(by omega),⟨(Qc kd.o)⟩,⟨(Qc ke.o)⟩,⟨(Qc kf.o)⟩,⟨(Qk (A:=(fun x=>x≠dX)) aJ)⟩,⟨(Qk (A:=(fun x=>x≠dX)) aL)⟩,⟨(Qk (A:=(fun x=>x≠dX)) R)⟩,K_482⟩
     refine Zt<|qz [] rfl (Qz (cs:=Qo.cs (Qo.mk 0#8 0 (Qq.mk [] 0#64 [] k0 k0) 0#8 0#64 [] k0) (.slice none 0 0) (.slice none 0 0) (.slice none 0 0)) Km rfl) ⟨fun _=>Qb,trivial⟩ ?_
     rintro _ AW ⟨B,rfl,ux,fK,b8⟩
     have AX:=b8.size
     have wh:=fK.lt
     refine kG b8<|Zs ?_ ?_
     · refine Xo ?_
       obtain⟨AY,mw,hm⟩:=Qd hm
       refine qz [] rfl (eC Jh rfl (Ji mw)) ⟨fun _=>Qb,trivial⟩ ?_
       rintro _ AZ ⟨rfl,cy⟩
       have A0:=cy.size
       refine kG cy ?_
       have qP:=((bc.gr b8).gr cy)
       refine qz [(1,g)] rfl (Yx Tryz.underlying54 Tryz.underlying5 rfl qP) ⟨fun _=>(Qc ((.inr Qb):1=0∨f.heap.size≤g)),trivial⟩ ?_
       rintro wi A1 ⟨iS,b9⟩
       have A2:=b9.size
       have wj:=iS.lth
       refine⟨Kz.ofKa b9,?_⟩
       obtain⟨lB,mx,hm⟩:=Qd hm
       refine qz [] rfl (eC Vg rfl (Vh mx iS)) ⟨fun _=>Qb,trivial⟩ ?_
       rintro _ A3 ⟨fL,fM,fN,fO,fP,fQ,d3,d4,d5,rfl,aM,aN,aO,aP,S,T,kg,kh,ki,d6⟩
       have A4:=d6.size
       have wk:=aM.lth
       have wl:=aO.lth
       have wm:=S.lth
       refine kG d6 ?_
       have gV:=((((((Kp.refl ([]) f).gr m).gr b8).gr cy).ka b9 (Qc ((.inr Qb):1=0∨f.heap.size≤g))).gr d6)
       refine dn 0 rfl rfl gV<|dn 0 rfl rfl gV<|dn 0 rfl rfl gV ?_
       have qQ:=(((fK.gr cy).ka b9 (Qc (Qm (b:=B) e4))).gr d6)
       refine qz [(1,B)] rfl (Qr Zl rfl rfl (Qo.cs_ones _ _ _ _ (Qe.oneB aM) (Qe.oneB aO) (Qe.oneB S)) qQ rfl rfl) ⟨fun _=>Qb,trivial⟩ ?_
       rintro _ qR ⟨my,ca⟩
       have A5:=ca.size
       refine kM ca ?_
       have qS:=(gV.md ca)
       refine dn 0 rfl rfl qS<|Qi ?_
       have K_500:Kz [] d qR:=(((((((Kz.gr (Kz.refl _ _) k).gr m).gr b8).gr cy).ka b9 (Qc ((.inr Qb):1=0∨d.heap.size≤g))).gr d6).md ca)
       have qT:=(aM.md ca (Qt aN))
       have qU:=(aO.md ca (Qt aP))
       have qV:=(S.md ca (Qt T))
       exact⟨rfl,⟨lB.2,lB.1,B,fL,fM,fN,fO,fP,fQ,d3,d4,d5⟩,Qh,hm,qT,⟨(Qk (A:=(fun x=>d.heap.size≤x)) aN)⟩,qU,⟨(Qk (A:=(fun x=>d.heap.size≤x)) aP)⟩,qV,⟨(Qk (A:=(fun x=>d.heap.size≤x)) T)⟩,my,(by omega),⟨(Qc kg.o)⟩,⟨(Qc kh.o)⟩,⟨(Qc ki.o)⟩,⟨(Qk (A:=(fun x=>x≠B)) aN)⟩,⟨(Qk (A:=(fun x=>x≠B)) aP)⟩,⟨(Qk (A:=(fun x=>x≠B)) T)⟩,K_500⟩
     refine Xo ?_
     have qW:=(bc.gr b8)
     refine qz [(1,g)] rfl (Yx Tryz.underlying54 Tryz.underlying5 rfl qW) ⟨fun _=>(Qc ((.inr Qb):1=0∨f.heap.size≤g)),trivial⟩ ?_
     rintro wn A6 ⟨iU,cb⟩
     have A7:=cb.size
     have wo:=iU.lth
     refine⟨Kz.ofKa cb,?_⟩
     obtain⟨A8,mz,hm⟩:=Qd hm
     refine qz [] rfl (eC Jh rfl (Ji mz)) ⟨fun _=>Qb,trivial⟩ ?_
     rintro _ A9 ⟨rfl,cz⟩
     have Be:=cz.size
     refine kG cz ?_
     have qX:=(iU.gr cz)
     obtain⟨lC,mA,hm⟩:=Qd hm
     refine qz [] rfl (eC Vg rfl (Vh mA qX)) ⟨fun _=>Qb,trivial⟩ ?_
     rintro _ By ⟨fR,fS,fT,fU,fV,fW,d7,d8,d9,rfl,aQ,aR,aS,aT,U,V,kj,kk,kl,ea⟩
     have BB:=ea.size
     have wq:=aQ.lth
     have wt:=aS.lth
     have wu:=U.lth
     refine kG ea ?_
     have qY:=Gr.trans m b8
     have gW:=(((((Kp.refl ([]) f).gr qY).ka cb (Qc ((.inr Qb):1=0∨f.heap.size≤g))).gr cz).gr ea)
     refine dn 0 rfl rfl gW<|dn 0 rfl rfl gW<|dn 0 rfl rfl gW ?_
     have qZ:=(((fK.ka cb (Qc (Qm (b:=B) e4))).gr cz).gr ea)
     refine qz [(1,B)] rfl (Qr Zl rfl rfl (Qo.cs_ones _ _ _ _ (Qe.oneB aQ) (Qe.oneB aS) (Qe.oneB U)) qZ rfl rfl) ⟨fun _=>Qb,trivial⟩ ?_
     rintro _ q0 ⟨mB,cc⟩
     have BC:=cc.size
     refine kM cc ?_
     have q1:=(gW.md cc)
     refine dn 0 rfl rfl q1<|Qi ?_
     have K_517:Kz [] d q0:=((((((Kz.gr (Kz.refl _ _) k).gr qY).ka cb (Qc ((.inr Qb):1=0∨d.heap.size≤g))).gr cz).gr ea).md cc)
     have q2:=(aQ.md cc (Qt aR))
     have q3:=(aS.md cc (Qt aT))
     have q4:=(U.md cc (Qt V))
     exact⟨rfl,⟨lC.2,lC.1,B,fR,fS,fT,fU,fV,fW,d7,d8,d9⟩,Qh,hm,q2,⟨(Qk (A:=(fun x=>d.heap.size≤x)) aR)⟩,q3,⟨(Qk (A:=(fun x=>d.heap.size≤x)) aT)⟩,q4,⟨(Qk (A:=(fun x=>d.heap.size≤x)) V)⟩,mB,(by omega),⟨(Qc kj.o)⟩,⟨(Qc kk.o)⟩,⟨(Qc kl.o)⟩,⟨(Qk (A:=(fun x=>x≠B)) aR)⟩,⟨(Qk (A:=(fun x=>x≠B)) aT)⟩,⟨(Qk (A:=(fun x=>x≠B)) V)⟩,K_517⟩
   refine Zt<|qz [] rfl (Qz (cs:=Qo.cs (Qo.mk 0#8 0 (Qq.mk [] 0#64 [] k0 k0) 0#8 0#64 [] k0) (.slice none 0 0) (.slice none 0 0) (.slice none 0 0)) Km rfl) ⟨fun _=>Qb,trivial⟩ ?_
   rintro _ BD ⟨j,rfl,uy,cI,cd⟩
   have BE:=cd.size
   have ww:=cI.lt
   refine kG cd<|Zs ?_ ?_
   · refine Xo ?_
     obtain⟨BF,mC,hm⟩:=Qd hm
     refine qz [] rfl (eC Jh rfl (Ji mC)) ⟨fun _=>Qb,trivial⟩ ?_
     rintro _ BG ⟨rfl,eb⟩
     have BH:=eb.size
     refine kG eb<|qz [] rfl (Ko [97#8,98#8,99#8] Xx Gn rfl rfl (Ks rfl) rfl rfl rfl) ⟨fun _=>Qb,trivial⟩ ?_
     rintro wx BI ⟨ce,uz,iV,ec⟩
     have BJ:=ec.size
     have wy:=iV.lth
     refine kG ec<|qz [(1,ce)] rfl (Yx Tryz.underlying54 Tryz.underlying5 rfl iV) ⟨fun _=>(Qc ((.inr Qb):1=0∨f.heap.size≤ce)),trivial⟩ ?_
     rintro wz BK ⟨iW,cf⟩
     have BL:=cf.size
     have wA:=iW.lth
     refine⟨Kz.ofKa cf,?_⟩
     obtain⟨lD,mD,hm⟩:=Qd hm
     refine qz [] rfl (eC Vg rfl (Vh mD iW)) ⟨fun _=>Qb,trivial⟩ ?_
     rintro _ BM ⟨fX,fY,fZ,f0,f1,f2,ed,ee,ef,rfl,aU,aV,aW,aX,W,X,km,ko,kq,eg⟩
     have BN:=eg.size
     have wB:=aU.lth
     have wC:=aW.lth
     have wD:=W.lth
     refine kG eg ?_
     have gX:=((((((Kp.refl ([]) f).gr cd).gr eb).gr ec).ka cf (Qc ((.inr Qb):1=0∨f.heap.size≤ce))).gr eg)
     refine dn 0 rfl rfl gX<|dn 0 rfl rfl gX<|dn 0 rfl rfl gX ?_
     have q5:=((((cI.gr eb).gr ec).ka cf (Qc ((.inr Qb):1=0∨ce≠j))).gr eg)
     refine qz [(1,j)] rfl (Qr Zl rfl rfl (Qo.cs_ones _ _ _ _ (Qe.oneB aU) (Qe.oneB aW) (Qe.oneB W)) q5 rfl rfl) ⟨fun _=>Qb,trivial⟩ ?_
     rintro _ q6 ⟨mE,cg⟩
     have BO:=cg.size
     refine kM cg ?_
     have q7:=(gX.md cg)
     refine dn 0 rfl rfl q7<|Qi ?_
     have K_536:Kz [] d q6:=(((((((Kz.gr (Kz.refl _ _) k).gr cd).gr eb).gr ec).ka cf (Qc ((.inr Qb):1=0∨d.heap.size≤ce))).gr eg).md cg)
     have q8:=(aU.md cg (Qt aV))
     have q9:=(aW.md cg (Qt aX))
     have ra:=(W.md cg (Qt X))
     exact⟨rfl,⟨lD.2,lD.1,j,fX,fY,fZ,f0,f1,f2,ed,ee,ef⟩,Qh,hm,q8,⟨(Qk (A:=(fun x=>d.heap.size≤x)) aV)⟩,q9,⟨(Qk (A:=(fun x=>d.heap.size≤x)) aX)⟩,ra,⟨(Qk (A:=(fun x=>d.heap.size≤x)) X)⟩,mE,(by omega),⟨(Qc km.o)⟩,⟨(Qc ko.o)⟩,⟨(Qc kq.o)⟩,⟨(Qk (A:=(fun x=>x≠j)) aV)⟩,⟨(Qk (A:=(fun x=>x≠j)) aX)⟩,⟨(Qk (A:=(fun x=>x≠j)) X)⟩,K_536⟩
   refine Zt<|qz [] rfl (Ko [97#8,98#8,99#8] Xx Gn rfl rfl (Ks rfl) rfl rfl rfl) ⟨fun _=>Qb,trivial⟩ ?_
   rintro wE BP ⟨u,uA,f3,ch⟩
   have BQ:=ch.size
   have wF:=f3.lth
   refine kG ch<|Zs ?_ ?_
   · refine Xo ?_
     obtain⟨BR,mF,hm⟩:=Qd hm
     refine qz [] rfl (eC Jh rfl (Ji mF)) ⟨fun _=>Qb,trivial⟩ ?_
     rintro _ BT ⟨rfl,cA⟩
     have BU:=cA.size
     refine kG cA ?_
     have rb:=(f3.gr cA)
     refine qz [(1,u)] rfl (Yx Tryz.underlying54 Tryz.underlying5 rfl rb) ⟨fun _=>(Qc ((.inr Qb):1=0∨f.heap.size≤u)),trivial⟩ ?_
     rintro wG BV ⟨iX,ci⟩
     have BW:=ci.size
     have wH:=iX.lth
     refine⟨Kz.ofKa ci,?_⟩
     obtain⟨lE,mG,hm⟩:=Qd hm
     refine qz [] rfl (eC Vg rfl (Vh mG iX)) ⟨fun _=>Qb,trivial⟩ ?_
     rintro _ BX ⟨f4,f5,f6,f7,f8,f9,eh,ei,ej,rfl,aY,aZ,a0,a1,Y,Z,kr,kt,ku,ek⟩
     have BY:=ek.size
     have wI:=aY.lth
     have wJ:=a0.lth
     have wK:=Y.lth
     refine kG ek ?_
     have gY:=((((((Kp.refl ([]) f).gr cd).gr ch).gr cA).ka ci (Qc ((.inr Qb):1=0∨f.heap.size≤u))).gr ek)
     refine dn 0 rfl rfl gY<|dn 0 rfl rfl gY<|dn 0 rfl rfl gY ?_
     have rc:=((((cI.gr ch).gr cA).ka ci (Qc ((.inr Qb):1=0∨u≠j))).gr ek)
     refine qz [(1,j)] rfl (Qr Zl rfl rfl (Qo.cs_ones _ _ _ _ (Qe.oneB aY) (Qe.oneB a0) (Qe.oneB Y)) rc rfl rfl) ⟨fun _=>Qb,trivial⟩ ?_
     rintro _ re ⟨mH,cj⟩
     have B0:=cj.size
     refine kM cj ?_
     have rf:=(gY.md cj)
     refine dn 0 rfl rfl rf<|Qi ?_
     have K_554:Kz [] d re:=(((((((Kz.gr (Kz.refl _ _) k).gr cd).gr ch).gr cA).ka ci (Qc ((.inr Qb):1=0∨d.heap.size≤u))).gr ek).md cj)
     have rh:=(aY.md cj (Qt aZ))
     have ri:=(a0.md cj (Qt a1))
     have rj:=(Y.md cj (Qt Z))
     exact⟨rfl,⟨lE.2,lE.1,j,f4,f5,f6,f7,f8,f9,eh,ei,ej⟩,Qh,hm,rh,⟨(Qk (A:=(fun x=>d.heap.size≤x)) aZ)⟩,ri,⟨(Qk (A:=(fun x=>d.heap.size≤x)) a1)⟩,rj,⟨(Qk (A:=(fun x=>d.heap.size≤x)) Z)⟩,mH,(by omega),⟨(Qc kr.o)⟩,⟨(Qc kt.o)⟩,⟨(Qc ku.o)⟩,⟨(Qk (A:=(fun x=>x≠j)) aZ)⟩,⟨(Qk (A:=(fun x=>x≠j)) a1)⟩,⟨(Qk (A:=(fun x=>x≠j)) Z)⟩,K_554⟩
   refine Xo<|qz [(1,u)] rfl (Yx Tryz.underlying54 Tryz.underlying5 rfl f3) ⟨fun _=>(Qc ((.inr Qb):1=0∨f.heap.size≤u)),trivial⟩ ?_
   rintro wL B1 ⟨iY,ck⟩
   have B2:=ck.size
   have wM:=iY.lth
   refine⟨Kz.ofKa ck,?_⟩
   obtain⟨B3,mI,hm⟩:=Qd hm
   refine qz [] rfl (eC Jh rfl (Ji mI)) ⟨fun _=>Qb,trivial⟩ ?_
   rintro _ B4 ⟨rfl,cB⟩
   have B5:=cB.size
   refine kG cB ?_
   have rk:=(iY.gr cB)
   obtain⟨lF,mJ,hm⟩:=Qd hm
   refine qz [] rfl (eC Vg rfl (Vh mJ rk)) ⟨fun _=>Qb,trivial⟩ ?_
   rintro _ B6 ⟨ga,gb,gc,gf,gg,gh,el,em,en,rfl,a2,a3,a4,a5,aa,ab,kw,kx,ky,eo⟩
   have B7:=eo.size
   have wN:=a2.lth
   have wO:=a4.lth
   have wP:=aa.lth
   refine kG eo ?_
   have rl:=Gr.trans cd ch
   have gZ:=(((((Kp.refl ([]) f).gr rl).ka ck (Qc ((.inr Qb):1=0∨f.heap.size≤u))).gr cB).gr eo)
   refine dn 0 rfl rfl gZ<|dn 0 rfl rfl gZ<|dn 0 rfl rfl gZ ?_
   have rm:=((((cI.gr ch).ka ck (Qc ((.inr Qb):1=0∨u≠j))).gr cB).gr eo)
   refine qz [(1,j)] rfl (Qr Zl rfl rfl (Qo.cs_ones _ _ _ _ (Qe.oneB a2) (Qe.oneB a4) (Qe.oneB aa)) rm rfl rfl) ⟨fun _=>Qb,trivial⟩ ?_
   rintro _ rn ⟨mK,cl⟩
   have B8:=cl.size
   refine kM cl ?_
   have ro:=(gZ.md cl)
   refine dn 0 rfl rfl ro<|Qi ?_
   have K_570:Kz [] d rn:=((((((Kz.gr (Kz.refl _ _) k).gr rl).ka ck (Qc ((.inr Qb):1=0∨d.heap.size≤u))).gr cB).gr eo).md cl)
   have rp:=(a2.md cl (Qt a3))
   have rq:=(a4.md cl (Qt a5))
   have rr:=(aa.md cl (Qt ab))
   exact⟨rfl,⟨lF.2,lF.1,j,ga,gb,gc,gf,gg,gh,el,em,en⟩,Qh,hm,rp,⟨(Qk (A:=(fun x=>d.heap.size≤x)) a3)⟩,rq,⟨(Qk (A:=(fun x=>d.heap.size≤x)) a5)⟩,rr,⟨(Qk (A:=(fun x=>d.heap.size≤x)) ab)⟩,mK,(by omega),⟨(Qc kw.o)⟩,⟨(Qc kx.o)⟩,⟨(Qc ky.o)⟩,⟨(Qk (A:=(fun x=>x≠j)) a3)⟩,⟨(Qk (A:=(fun x=>x≠j)) a5)⟩,⟨(Qk (A:=(fun x=>x≠j)) ab)⟩,K_570⟩
 clear hm;rintro⟨cV,n,bq16,vy18,zy18,gy18,vy19,zy19,gy19,vy20,zy20,gy20⟩ Fn ⟨hm,cJ,uB,cK,uC,cL,uD,cM,uE,uF,uG,rs,iZ,i0,i1,i2⟩
 have Fr:=i2.size
 have rt:=cJ.lth
 have ru:=cK.lth
 have rv:=cL.lth
 have B9:=cM.lt
 unfold Qgw at hm
 refine qs 7 rfl<|qv rfl (Qu Zl rfl cM rfl) ?_
 obtain⟨gi,rx,hm⟩:=Qd hm
 refine qe rfl (eC Qq6 rfl (Qrj rx (Qe.rd cJ) (Qe.rd cK) (Qe.rd cL))) ?_
 rintro _ wQ ⟨nC,nD,nE,rfl,cC,nF,cN⟩
 have Fx:=cN.size
 have Cp:=cC.lth
 refine qn 5 rfl<|Qa ?_
 have wR:=((vt.kz i2).trans cN)
 refine qj (β:=Int) ([5,7]++rg 115 7) (fun gj=>[(5,.int .i64 gi.2),(7,.int .i64 gj)]) (fun gj wr=>(Qgx cV n gi gj=some r)∧Kz [] wQ wr) ?_ ?_
 · refine dw [([])] [] (.fork [(0,10)] (.leaf [(1,0),(2,0),(3,0),(4,10),(5,10),(6,10),(7,10)]) (.leaf [(2,0),(1,0),(3,0),(4,10),(5,10),(6,10),(7,10)])) ?_
   intro lG i3 wS
   refine Zt ?_
   have ry:=(((gG.kz i2).gr cN).gr i3)
   refine dh 0 rfl rfl (fun w hS=>Qu Qy rfl (Bx.kp ry hS) rfl) ?_
   obtain⟨Fy,lH,hm⟩:=Qd hm
   obtain⟨FB,lI,hm⟩:=Qd hm
   refine Zs ?_ ?_
   · refine Xo<|qz [] rfl (eC Jh rfl (Ji lH)) ⟨fun _=>Qb,trivial⟩ ?_
     rintro _ Cv ⟨rfl,g0⟩
     have CA:=g0.size
     refine kG g0<|qz [] rfl (Az (c:=Xx) (a:=0#8) Tj Ft rfl ⟨rfl,rfl⟩ rfl lI (by decide)) ⟨fun _=>Qb,trivial⟩ ?_
     rintro wT CB ⟨wU,uH,i4,g1⟩
     have CC:=g1.size
     have wV:=i4.lth
     refine kG g1 ?_
     obtain⟨wW,rz,hm⟩:=Qd hm
     refine qz [] rfl (eC Vg rfl (Vh rz (Qe.rd i4))) ⟨fun _=>Qb,trivial⟩ ?_
     rintro _ CD ⟨mL,mM,mN,mO,mP,mQ,lJ,lK,lL,rfl,gk,mR,gl,mS,ep,lM,uI,uJ,uK,g2⟩
     have CE:=g2.size
     have wX:=gk.lth
     have wY:=gl.lth
     have wZ:=ep.lth
     refine kG g2 ?_
     have g3:=((((Kp.refl ([]) lG).gr g0).gr g1).gr g2)
     refine dn 0 rfl rfl g3<|dn 0 rfl rfl g3<|dn 0 rfl rfl g3<|dn 0 rfl rfl g3<|Qi ?_
     exact⟨rfl,wW.2,Qh,hm,((((Xi.gr i3).gr g0).gr g1).gr g2)⟩
   refine Xo<|qz [] rfl (Az (c:=Xx) (a:=0#8) Tj Ft rfl ⟨rfl,rfl⟩ rfl lI (by decide)) ⟨fun _=>Qb,trivial⟩ ?_
   rintro w0 CF ⟨xa,uL,i5,g4⟩
   have CG:=g4.size
   have xb:=i5.lth
   refine kG g4<|qz [] rfl (eC Jh rfl (Ji lH)) ⟨fun _=>Qb,trivial⟩ ?_
   rintro _ CH ⟨rfl,er⟩
   have CI:=er.size
   refine kG er ?_
   have rA:=(i5.gr er)
   obtain⟨xc,rB,hm⟩:=Qd hm
   refine qz [] rfl (eC Vg rfl (Vh rB (Qe.rd rA))) ⟨fun _=>Qb,trivial⟩ ?_
   rintro _ CJ ⟨mT,mU,mV,mW,mX,mY,lN,lO,lP,rfl,gm,mZ,gn,m0,es,lQ,uM,uN,uO,g5⟩
   have CK:=g5.size
   have xd:=gm.lth
   have xe:=gn.lth
   have xf:=es.lth
   refine kG g5 ?_
   have g6:=((((Kp.refl ([]) lG).gr g4).gr er).gr g5)
   refine dn 0 rfl rfl g6<|dn 0 rfl rfl g6<|dn 0 rfl rfl g6<|dn 0 rfl rfl g6<|Qi ?_
   exact⟨rfl,xc.2,Qh,hm,((((Xi.gr i3).gr g4).gr er).gr g5)⟩
 clear hm;rintro gj FC ⟨hm,cO⟩
 have FD:=cO.size
 unfold Qgx at hm
 refine qs 5 rfl ?_
 obtain⟨kA,rC,hm⟩:=Qd hm
 refine qe rfl (eC Qr4 rfl (Qrh rC (Qe.rd (Za _ 0 5 1)))) ?_
 rintro _ cm ⟨nG,nH,nI,nJ,nK,nL,m1,m2,m3,rfl,hh,nM,hi,nN,go,m4,xg,xh,xi,cP⟩
 have FE:=cP.size
 have CL:=hh.lth
 have CM:=hi.lth
 have CN:=go.lth
 refine qn 4 rfl<|Qa ?_
 have xj:=((wR.kz cO).trans cP)
 refine qj (β:=Int × Xl × Nat × Value × Nat × Nat) ([9,11,17]++rg 126 7) (fun⟨hj,et,bq25,vy27,zy27,gy27⟩=>[(9,.int .i64 kA.2),(11,.int .i64 hj),(17,.pointer (some ⟨bq25,0,none⟩))]) (fun⟨hj,et,bq25,vy27,zy27,gy27⟩ wr=>(Qgy cV n gi gj kA hj et=some r)∧Qe wr zy27 gy27 120 18 vy27 (et.Secret.Labels.map Zr.cs)∧Xk (zy27=0∨cm.heap.size≤gy27)∧Bx wr bq25 105 (Xl.cs et vy27)∧cm.heap.size≤bq25∧Xk (zy27=0∨gy27≠bq25)∧Kz [] cm wr) ?_ ?_
 · refine dw [([])] [] (.fork [(0,10)] (.fork [(1,0)] (.fork [(2,0)] (.leaf [(3,0),(4,10),(5,10),(6,10),(7,0),(8,0),(9,10)]) (.leaf [(7,0),(3,0),(4,10),(5,10),(6,10),(8,0),(9,10)])) (.leaf [(7,0),(2,0),(3,0),(4,10),(5,10),(6,10),(8,0),(9,10)])) (.leaf [(7,0),(1,0),(2,0),(3,0),(4,10),(5,10),(6,10),(8,0),(9,10)])) ?_
   intro kB i6 CO
   refine Zt ?_
   have rD:=(((((gG.kz i2).gr cN).kz cO).gr cP).gr i6)
   refine dh 0 rfl rfl (fun w hS=>Qu Qy rfl (Bx.kp rD hS) rfl)<|Zs ?_ ?_
   · refine Zt ?_
     obtain⟨FF,rE,hm⟩:=Qd hm
     refine qz [] rfl (eC Yb rfl (Yc rE)) ⟨fun _=>Qb,trivial⟩ ?_
     rintro _ FG ⟨rfl,hk⟩
     have CP:=hk.size
     refine kG hk<|Zs ?_ ?_
     · refine Zt ?_
       obtain⟨FH,rF,hm⟩:=Qd hm
       refine qz [] rfl (eC Jh rfl (Ji rF)) ⟨fun _=>Qb,trivial⟩ ?_
       rintro _ FI ⟨rfl,i7⟩
       have CQ:=i7.size
       refine kG i7<|Zs ?_ ?_
       · refine Xo ?_
         obtain⟨rG,rH,hm⟩:=Qd hm
         refine qz [] rfl (eC Dc rfl (Dd rH)) ⟨fun _=>Qb,trivial⟩ ?_
         rintro _ FJ ⟨hl,hn,ho,rfl,cD,hp,kC⟩
         have CR:=kC.size
         have i8:=cD.lth
         refine kG kC ?_
         have g7:=((((Kp.refl ([]) kB).gr hk).gr i7).gr kC)
         refine dn 0 rfl rfl g7<|dn 0 rfl rfl g7<|dn 0 rfl rfl g7<|qz [] rfl (Qz (cs:=Xl.cs (Xl.mk (Xt.mk 0 [] (Qx.mk 0#64 0#64)) 0 (Jg.mk (Xw.mk false 0 k0) (Xw.mk false 0 k0))) (.slice none 0 0)) Vx rfl) ⟨fun _=>Qb,trivial⟩ ?_
         rintro _ FK ⟨m5,rfl,xk,lR,i9⟩
         have CS:=i9.size
         have xl:=lR.lt
         refine kG i9 ?_
         have lS:=(cD.gr i9)
         refine qz [(1,m5)] rfl (Qr Ju rfl rfl (Xl.cs_ones _ _ (Qe.oneB lS)) lR rfl rfl) ⟨fun _=>Qb,trivial⟩ ?_
         rintro _ xm ⟨rI,ja⟩
         have CT:=ja.size
         refine kM ja ?_
         have rJ:=((g7.gr i9).md ja)
         refine dn 0 rfl rfl rJ<|Qi ?_
         have K_254:Kz [] cm xm:=((((((Kz.gr (Kz.refl _ _) i6).gr hk).gr i7).gr kC).gr i9).md ja)
         have rK:=(lS.md ja (Qm i8))
         exact⟨rfl,⟨rG.2,rG.1,m5,hl,hn,ho⟩,Qh,hm,rK,⟨(Qk (A:=(fun x=>cm.heap.size≤x)) hp)⟩,rI,(by omega),⟨(Kq (A:=(fun x=>x≠m5)) i8)⟩,K_254⟩
       refine Xo<|qz [] rfl (Qz (cs:=Xl.cs (Xl.mk (Xt.mk 0 [] (Qx.mk 0#64 0#64)) 0 (Jg.mk (Xw.mk false 0 k0) (Xw.mk false 0 k0))) (.slice none 0 0)) Vx rfl) ⟨fun _=>Qb,trivial⟩ ?_
       rintro _ FL ⟨m6,rfl,xn,lT,m7⟩
       have CU:=m7.size
       have xo:=lT.lt
       refine kG m7 ?_
       obtain⟨rL,rM,hm⟩:=Qd hm
       refine qz [] rfl (eC Dc rfl (Dd rM)) ⟨fun _=>Qb,trivial⟩ ?_
       rintro _ FM ⟨hq,hr,ht,rfl,be,bf,kD⟩
       have CW:=kD.size
       have xp:=be.lth
       refine kG kD ?_
       have rN:=Gr.trans (Gr.trans (Gr.trans hk i7) m7) kD
       have g8:=((Kp.refl ([]) kB).gr rN)
       refine dn 0 rfl rfl g8<|dn 0 rfl rfl g8<|dn 0 rfl rfl g8 ?_
       have rO:=(lT.gr kD)
       refine qz [(1,m6)] rfl (Qr Ju rfl rfl (Xl.cs_ones _ _ (Qe.oneB be)) rO rfl rfl) ⟨fun _=>Qb,trivial⟩ ?_
       rintro _ xq ⟨rP,jb⟩
       have CX:=jb.size
       refine kM jb ?_
       have rQ:=(g8.md jb)
       refine dn 0 rfl rfl rQ<|Qi ?_
       have K_264:Kz [] cm xq:=(((Kz.gr (Kz.refl _ _) i6).gr rN).md jb)
       have rR:=(be.md jb (Qt bf))
       exact⟨rfl,⟨rL.2,rL.1,m6,hq,hr,ht⟩,Qh,hm,rR,⟨(Qk (A:=(fun x=>cm.heap.size≤x)) bf)⟩,rP,(by omega),⟨(Qk (A:=(fun x=>x≠m6)) bf)⟩,K_264⟩
     refine Xo<|qz [] rfl (Qz (cs:=Xl.cs (Xl.mk (Xt.mk 0 [] (Qx.mk 0#64 0#64)) 0 (Jg.mk (Xw.mk false 0 k0) (Xw.mk false 0 k0))) (.slice none 0 0)) Vx rfl) ⟨fun _=>Qb,trivial⟩ ?_
     rintro _ FN ⟨m8,rfl,xr,lU,m9⟩
     have CY:=m9.size
     have xs:=lU.lt
     refine kG m9 ?_
     obtain⟨FO,rS,hm⟩:=Qd hm
     refine qz [] rfl (eC Jh rfl (Ji rS)) ⟨fun _=>Qb,trivial⟩ ?_
     rintro _ FP ⟨rfl,kE⟩
     have CZ:=kE.size
     refine kG kE ?_
     obtain⟨rT,rU,hm⟩:=Qd hm
     refine qz [] rfl (eC Dc rfl (Dd rU)) ⟨fun _=>Qb,trivial⟩ ?_
     rintro _ FQ ⟨hu,hw,hx,rfl,bg,bh,kF⟩
     have C0:=kF.size
     have xt:=bg.lth
     refine kG kF ?_
     have rV:=Gr.trans (Gr.trans (Gr.trans hk m9) kE) kF
     have g9:=((Kp.refl ([]) kB).gr rV)
     refine dn 0 rfl rfl g9<|dn 0 rfl rfl g9<|dn 0 rfl rfl g9 ?_
     have rW:=((lU.gr kE).gr kF)
     refine qz [(1,m8)] rfl (Qr Ju rfl rfl (Xl.cs_ones _ _ (Qe.oneB bg)) rW rfl rfl) ⟨fun _=>Qb,trivial⟩ ?_
     rintro _ xu ⟨rX,jc⟩
     have C1:=jc.size
     refine kM jc ?_
     have rY:=(g9.md jc)
     refine dn 0 rfl rfl rY<|Qi ?_
     have K_275:Kz [] cm xu:=(((Kz.gr (Kz.refl _ _) i6).gr rV).md jc)
     have rZ:=(bg.md jc (Qt bh))
     exact⟨rfl,⟨rT.2,rT.1,m8,hu,hw,hx⟩,Qh,hm,rZ,⟨(Qk (A:=(fun x=>cm.heap.size≤x)) bh)⟩,rX,(by omega),⟨(Qk (A:=(fun x=>x≠m8)) bh)⟩,K_275⟩
   refine Xo<|qz [] rfl (Qz (cs:=Xl.cs (Xl.mk (Xt.mk 0 [] (Qx.mk 0#64 0#64)) 0 (Jg.mk (Xw.mk false 0 k0) (Xw.mk false 0 k0))) (.slice none 0 0)) Vx rfl) ⟨fun _=>Qb,trivial⟩ ?_
   rintro _ FR ⟨na,rfl,xv,lV,nb⟩
   have C2:=nb.size
   have xw:=lV.lt
   refine kG nb ?_
   obtain⟨FS,r0,hm⟩:=Qd hm
   refine qz [] rfl (eC Yb rfl (Yc r0)) ⟨fun _=>Qb,trivial⟩ ?_
   rintro _ FT ⟨rfl,kH⟩
   have C3:=kH.size
   refine kG kH ?_
   obtain⟨FU,r1,hm⟩:=Qd hm
   refine qz [] rfl (eC Jh rfl (Ji r1)) ⟨fun _=>Qb,trivial⟩ ?_
   rintro _ FV ⟨rfl,kI⟩
   have C4:=kI.size
   refine kG kI ?_
   obtain⟨r2,r3,hm⟩:=Qd hm
   refine qz [] rfl (eC Dc rfl (Dd r3)) ⟨fun _=>Qb,trivial⟩ ?_
   rintro _ FW ⟨hy,hz,hA,rfl,bi,bj,kJ⟩
   have C5:=kJ.size
   have xx:=bi.lth
   refine kG kJ ?_
   have r4:=Gr.trans (Gr.trans (Gr.trans nb kH) kI) kJ
   have ha:=((Kp.refl ([]) kB).gr r4)
   refine dn 0 rfl rfl ha<|dn 0 rfl rfl ha<|dn 0 rfl rfl ha ?_
   have xy:=Gr.trans (Gr.trans kH kI) kJ
   have r5:=(lV.gr xy)
   refine qz [(1,na)] rfl (Qr Ju rfl rfl (Xl.cs_ones _ _ (Qe.oneB bi)) r5 rfl rfl) ⟨fun _=>Qb,trivial⟩ ?_
   rintro _ xz ⟨r6,jd⟩
   have C6:=jd.size
   refine kM jd ?_
   have r7:=(ha.md jd)
   refine dn 0 rfl rfl r7<|Qi ?_
   have K_287:Kz [] cm xz:=(((Kz.gr (Kz.refl _ _) i6).gr r4).md jd)
   have r8:=(bi.md jd (Qt bj))
   exact⟨rfl,⟨r2.2,r2.1,na,hy,hz,hA⟩,Qh,hm,r8,⟨(Qk (A:=(fun x=>cm.heap.size≤x)) bj)⟩,r6,(by omega),⟨(Qk (A:=(fun x=>x≠na)) bj)⟩,K_287⟩
 clear hm;rintro⟨hj,et,bq25,vy27,zy27,gy27⟩ FX ⟨hm,ae,uP,cQ,uQ,uR,eu⟩
 have FY:=eu.size
 have r9:=ae.lth
 have C7:=cQ.lt
 unfold Qgy at hm
 refine Qj<|dw [([])] [] (.leaf [(0,10),(1,0),(2,0),(3,0),(4,10),(5,10),(6,10),(7,10)]) ?_
 intro xA sa C8
 refine Xo ?_
 have sb:=((((((gG.kz i2).gr cN).kz cO).gr cP).kz eu).gr sa)
 refine dh 0 rfl rfl (fun w hS=>Qu Qy rfl (Bx.kp sb hS) rfl) ?_
 obtain⟨FZ,sc,hm⟩:=Qd hm
 refine qz [] rfl (eC Yb rfl (Yc sc)) ⟨fun _=>Qb,trivial⟩ ?_
 rintro _ F0 ⟨rfl,nc⟩
 have F2:=nc.size
 refine kG nc ?_
 obtain⟨F3,sd,hm⟩:=Qd hm
 refine qz [] rfl (eC Jh rfl (Ji sd)) ⟨fun _=>Qb,trivial⟩ ?_
 rintro _ F4 ⟨rfl,nf⟩
 have F5:=nf.size
 refine kG nf ?_
 obtain⟨ng,se,hm⟩:=Qd hm
 refine qz [] rfl (eC Dc rfl (Dd se)) ⟨fun _=>Qb,trivial⟩ ?_
 rintro _ ac ⟨nO,nP,nQ,rfl,hB,nR,nh⟩
 have F6:=nh.size
 have C9:=hB.lth
 refine kG nh ?_
 have ni:=Gr.trans (Gr.trans nc nf) nh
 have kK:=((Kp.refl ([]) xA).gr ni)
 refine dn 0 rfl rfl kK<|dn 0 rfl rfl kK<|dn 0 rfl rfl kK<|dn 0 rfl rfl kK<|Qa ?_
 have bk:=Gr.trans sa ni
 have xB:=((xj.kz eu).trans bk)
 refine qj (β:=Qo × Int × Nat × Value × Nat × Nat × Value × Nat × Nat × Value × Nat × Nat) ([13,18,19]++rg 140 6) (fun⟨y,hC,bq31,vy33,zy33,gy33,vy34,zy34,gy34,vy35,zy35,gy35⟩=>[(13,.int .i64 ng.2),(18,.pointer (some ⟨bq31,0,none⟩)),(19,.int .i64 hC)]) (fun⟨y,hC,bq31,vy33,zy33,gy33,vy34,zy34,gy34,vy35,zy35,gy35⟩ wr=>(Qgz cV n gi gj kA hj et ng y hC=some r)∧Qe wr zy33 gy33 195 18 vy33 (y.Head.Items.map Zc.cs)∧Xk (zy33=0∨ac.heap.size≤gy33)∧Qe wr zy34 gy34 65 2 vy34 (y.Head.Points.map Qx.cs)∧Xk (zy34=0∨ac.heap.size≤gy34)∧Qe wr zy35 gy35 5 1 vy35 (y.Data.map Xx)∧Xk (zy35=0∨ac.heap.size≤gy35)∧Bx wr bq31 56 (Qo.cs y vy33 vy34 vy35)∧ac.heap.size≤bq31∧Xk (zy34=0∨zy33=0∨gy34≠gy33)∧Xk (zy35=0∨zy33=0∨gy35≠gy33)∧Xk (zy35=0∨zy34=0∨gy35≠gy34)∧Xk (zy33=0∨gy33≠bq31)∧Xk (zy34=0∨gy34≠bq31)∧Xk (zy35=0∨gy35≠bq31)∧Kz [] ac wr) ?_ ?_
 · refine dw [([])] [] (.fork [(0,10)] (.fork [(1,0)] (.leaf [(2,0),(3,10),(4,10),(5,10),(6,0),(7,0),(8,10)]) (.leaf [(6,0),(2,0),(3,10),(4,10),(5,10),(7,0),(8,10)])) (.leaf [(6,0),(1,0),(2,0),(3,10),(4,10),(5,10),(7,0),(8,10)])) ?_
   intro nj kL Do
   refine Zt ?_
   have sf:=((sb.gr ni).gr kL)
   refine dh 0 rfl rfl (fun w hS=>Qu Qy rfl (Bx.kp sf hS) rfl)<|Zs ?_ ?_
   · refine Zt ?_
     obtain⟨F7,sg,hm⟩:=Qd hm
     refine qz [] rfl (eC Yb rfl (Yc sg)) ⟨fun _=>Qb,trivial⟩ ?_
     rintro _ F8 ⟨rfl,hD⟩
     have Ds:=hD.size
     refine kG hD<|Zs ?_ ?_
     · refine Xo ?_
       obtain⟨sh,si,hm⟩:=Qd hm
       refine qz [] rfl (eC Tp rfl (Tq si (Qe.rd (Za _ 0 3 1)))) ⟨fun _=>Qb,trivial⟩ ?_
       rintro _ F9 ⟨hE,hF,hG,hH,hI,hJ,gp,gq,gs,rfl,cE,hK,cF,hL,cn,gu,nk,nl,nm,kN⟩
       have DA:=kN.size
       have je:=cE.lth
       have jf:=cF.lth
       have jg:=cn.lth
       refine kG kN ?_
       have hb:=(((Kp.refl ([]) nj).gr hD).gr kN)
       refine dn 0 rfl rfl hb<|dn 0 rfl rfl hb<|dn 0 rfl rfl hb<|qz [] rfl (Qz (cs:=Qo.cs (Qo.mk 0#8 0 (Qq.mk [] 0#64 [] k0 k0) 0#8 0#64 [] k0) (.slice none 0 0) (.slice none 0 0) (.slice none 0 0)) Km rfl) ⟨fun _=>Qb,trivial⟩ ?_
       rintro _ Ge ⟨jh,rfl,xC,lW,gv⟩
       have DB:=gv.size
       have xD:=lW.lt
       refine kG gv ?_
       have lX:=(cE.gr gv)
       have lY:=(cF.gr gv)
       have lZ:=(cn.gr gv)
       refine qz [(1,jh)] rfl (Qr Zl rfl rfl (Qo.cs_ones _ _ _ _ (Qe.oneB lX) (Qe.oneB lY) (Qe.oneB lZ)) lW rfl rfl) ⟨fun _=>Qb,trivial⟩ ?_
       rintro _ xE ⟨sj,gw⟩
       have DC:=gw.size
       refine kM gw ?_
       have sk:=((hb.gr gv).md gw)
       refine dn 0 rfl rfl sk<|Qi ?_
       have K_210:Kz [] ac xE:=(((((Kz.gr (Kz.refl _ _) kL).gr hD).gr kN).gr gv).md gw)
       have sl:=(lX.md gw (Qm je))
       have sm:=(lY.md gw (Qm jf))
       have sn:=(lZ.md gw (Qm jg))
       exact⟨rfl,⟨sh.1,sh.2,jh,hE,hF,hG,hH,hI,hJ,gp,gq,gs⟩,Qh,hm,sl,⟨(Qk (A:=(fun x=>ac.heap.size≤x)) hK)⟩,sm,⟨(Qk (A:=(fun x=>ac.heap.size≤x)) hL)⟩,sn,⟨(Qk (A:=(fun x=>ac.heap.size≤x)) gu)⟩,sj,(by omega),⟨(Qc nk.o)⟩,⟨(Qc nl.o)⟩,⟨(Qc nm.o)⟩,⟨(Kq (A:=(fun x=>x≠jh)) je)⟩,⟨(Kq (A:=(fun x=>x≠jh)) jf)⟩,⟨(Kq (A:=(fun x=>x≠jh)) jg)⟩,K_210⟩
     refine Xo<|qz [] rfl (Qz (cs:=Qo.cs (Qo.mk 0#8 0 (Qq.mk [] 0#64 [] k0 k0) 0#8 0#64 [] k0) (.slice none 0 0) (.slice none 0 0) (.slice none 0 0)) Km rfl) ⟨fun _=>Qb,trivial⟩ ?_
     rintro _ Gt ⟨ji,rfl,xF,l0,kO⟩
     have DD:=kO.size
     have xG:=l0.lt
     refine kG kO ?_
     obtain⟨so,sp,hm⟩:=Qd hm
     refine qz [] rfl (eC Tp rfl (Tq sp (Qe.rd (Za _ 0 3 1)))) ⟨fun _=>Qb,trivial⟩ ?_
     rintro _ GA ⟨hM,hN,hO,hP,hQ,hR,gx,gy,gz,rfl,bl,bm,bn,bo,a6,a7,nn,no,np,jj⟩
     have DE:=jj.size
     have xH:=bl.lth
     have xI:=bn.lth
     have xJ:=a6.lth
     refine kG jj ?_
     have hc:=((((Kp.refl ([]) nj).gr hD).gr kO).gr jj)
     refine dn 0 rfl rfl hc<|dn 0 rfl rfl hc<|dn 0 rfl rfl hc ?_
     have sq:=(l0.gr jj)
     refine qz [(1,ji)] rfl (Qr Zl rfl rfl (Qo.cs_ones _ _ _ _ (Qe.oneB bl) (Qe.oneB bn) (Qe.oneB a6)) sq rfl rfl) ⟨fun _=>Qb,trivial⟩ ?_
     rintro _ xK ⟨sr,gA⟩
     have DF:=gA.size
     refine kM gA ?_
     have ss:=(hc.md gA)
     refine dn 0 rfl rfl ss<|Qi ?_
     have K_224:Kz [] ac xK:=(((((Kz.gr (Kz.refl _ _) kL).gr hD).gr kO).gr jj).md gA)
     have st:=(bl.md gA (Qt bm))
     have su:=(bn.md gA (Qt bo))
     have sv:=(a6.md gA (Qt a7))
     exact⟨rfl,⟨so.1,so.2,ji,hM,hN,hO,hP,hQ,hR,gx,gy,gz⟩,Qh,hm,st,⟨(Qk (A:=(fun x=>ac.heap.size≤x)) bm)⟩,su,⟨(Qk (A:=(fun x=>ac.heap.size≤x)) bo)⟩,sv,⟨(Qk (A:=(fun x=>ac.heap.size≤x)) a7)⟩,sr,(by omega),⟨(Qc nn.o)⟩,⟨(Qc no.o)⟩,⟨(Qc np.o)⟩,⟨(Qk (A:=(fun x=>x≠ji)) bm)⟩,⟨(Qk (A:=(fun x=>x≠ji)) bo)⟩,⟨(Qk (A:=(fun x=>x≠ji)) a7)⟩,K_224⟩
   refine Xo<|qz [] rfl (Qz (cs:=Qo.cs (Qo.mk 0#8 0 (Qq.mk [] 0#64 [] k0 k0) 0#8 0#64 [] k0) (.slice none 0 0) (.slice none 0 0) (.slice none 0 0)) Km rfl) ⟨fun _=>Qb,trivial⟩ ?_
   rintro _ GB ⟨jk,rfl,xL,l1,kP⟩
   have DG:=kP.size
   have xM:=l1.lt
   refine kG kP ?_
   obtain⟨GC,sw,hm⟩:=Qd hm
   refine qz [] rfl (eC Yb rfl (Yc sw)) ⟨fun _=>Qb,trivial⟩ ?_
   rintro _ GD ⟨rfl,jl⟩
   have DH:=jl.size
   refine kG jl ?_
   obtain⟨sx,sy,hm⟩:=Qd hm
   refine qz [] rfl (eC Tp rfl (Tq sy (Qe.rd (Za _ 0 3 1)))) ⟨fun _=>Qb,trivial⟩ ?_
   rintro _ GE ⟨hT,hU,hV,hW,hX,hY,gB,gC,gD,rfl,bp,bq,br,bs,a8,a9,nq,nr,nt,jm⟩
   have DI:=jm.size
   have xN:=bp.lth
   have xO:=br.lth
   have xP:=a8.lth
   refine kG jm ?_
   have hd:=((((Kp.refl ([]) nj).gr kP).gr jl).gr jm)
   refine dn 0 rfl rfl hd<|dn 0 rfl rfl hd<|dn 0 rfl rfl hd ?_
   have sz:=((l1.gr jl).gr jm)
   refine qz [(1,jk)] rfl (Qr Zl rfl rfl (Qo.cs_ones _ _ _ _ (Qe.oneB bp) (Qe.oneB br) (Qe.oneB a8)) sz rfl rfl) ⟨fun _=>Qb,trivial⟩ ?_
   rintro _ xQ ⟨sA,gE⟩
   have DJ:=gE.size
   refine kM gE ?_
   have sB:=(hd.md gE)
   refine dn 0 rfl rfl sB<|Qi ?_
   have K_239:Kz [] ac xQ:=(((((Kz.gr (Kz.refl _ _) kL).gr kP).gr jl).gr jm).md gE)
   have sC:=(bp.md gE (Qt bq))
   have sD:=(br.md gE (Qt bs))
   have sE:=(a8.md gE (Qt a9))
   exact⟨rfl,⟨sx.1,sx.2,jk,hT,hU,hV,hW,hX,hY,gB,gC,gD⟩,Qh,hm,sC,⟨(Qk (A:=(fun x=>ac.heap.size≤x)) bq)⟩,sD,⟨(Qk (A:=(fun x=>ac.heap.size≤x)) bs)⟩,sE,⟨(Qk (A:=(fun x=>ac.heap.size≤x)) a9)⟩,sA,(by omega),⟨(Qc nq.o)⟩,⟨(Qc nr.o)⟩,⟨(Qc nt.o)⟩,⟨(Qk (A:=(fun x=>x≠jk)) bq)⟩,⟨(Qk (A:=(fun x=>x≠jk)) bs)⟩,⟨(Qk (A:=(fun x=>x≠jk)) a9)⟩,K_239⟩
 clear hm;rintro⟨y,hC,bq31,vy33,zy33,gy33,vy34,zy34,gy34,vy35,zy35,gy35⟩ xR ⟨hm,af,uS,ag,uT,ah,uU,cR,uV,uW,uX,sF,jn,jo,jp,ba⟩
 have GF:=ba.size
 have DK:=af.lth
 have DL:=ag.lth
 have DM:=ah.lth
 have DN:=cR.lt
 unfold Qgz at hm
 refine Qj ?_
 have sG:=(xB.kz ba)
 refine qj (β:=Bool) (rg 146 31) (fun kQ=>[(176,.bool kQ)]) (fun kQ wr=>(Nf n et y kQ=some r)∧Kz [] xR wr) ?_ ?_
 · refine qg 31 rfl<|qm rfl<|qv rfl (Zp (a:=cV) (b:=0) rfl rfl)<|Zm hm rfl (Qw rfl) (fun c8 hm=>?_) (fun c8 hm=>?_)
   · refine qn 7 rfl ?_
     refine qn 7 rfl ?_
     refine qn 7 rfl ?_
     refine qn 7 rfl ?_
     refine Qi ?_
     exact⟨rfl,true,Qh,hm,Xi⟩
   refine qm rfl<|qv rfl (Zp (a:=gi.2) (b:=0) rfl rfl)<|qm rfl<|Zm hm rfl (Qw rfl) (fun c9 hm=>?_) (fun c9 hm=>?_)
   · refine qn 7 rfl ?_
     refine qn 7 rfl ?_
     refine qn 7 rfl ?_
     refine qn 3 rfl<|Qi ?_
     exact⟨rfl,true,Qh,hm,Xi⟩
   refine qm rfl ?_
   have sH:=(((((cC.kz cO).gr cP).kz eu).gr bk).kz ba)
   refine qv rfl (Zx (l:=gi.1) (c:=Xx) Tryz.underlying54 rfl (Qe.rd sH))<|qv rfl (Zp (a:=(gi.1.length:Int)) (b:=31) rfl rfl)<|qm rfl<|Zm hm rfl (Qw rfl) (fun xS hm=>?_) (fun xS hm=>?_)
   · refine qn 7 rfl ?_
     refine qn 7 rfl ?_
     refine qn 5 rfl<|Qi ?_
     exact⟨rfl,true,Qh,hm,Xi⟩
   refine qm rfl<|qv rfl (Zp (a:=gj) (b:=2) rfl rfl)<|qm rfl<|Zm hm rfl (Qw rfl) (fun xT hm=>?_) (fun xT hm=>?_)
   · refine qn 7 rfl ?_
     refine qn 7 rfl ?_
     refine qm rfl<|Qi ?_
     exact⟨rfl,true,Qh,hm,Xi⟩
   refine qm rfl<|qv rfl (Zp (a:=kA.2) (b:=8) rfl rfl)<|qm rfl<|Zm hm rfl (Qw rfl) (fun xU hm=>?_) (fun xU hm=>?_)
   · refine qn 7 rfl ?_
     refine qn 4 rfl<|Qi ?_
     exact⟨rfl,true,Qh,hm,Xi⟩
   refine qm rfl<|qv rfl (Zp (a:=hj) (b:=0) rfl rfl)<|qm rfl<|Zm hm rfl (Qw rfl) (fun xV hm=>?_) (fun xV hm=>?_)
   · refine qn 7 rfl ?_
     refine Qi ?_
     exact⟨rfl,true,Qh,hm,Xi⟩
   refine qm rfl<|qv rfl (Zp (a:=ng.2) (b:=2) rfl rfl)<|qm rfl<|Zm hm rfl (Qw rfl) (fun xW hm=>?_) (fun xW hm=>?_)
   · refine qn 3 rfl<|Qi ?_
     exact⟨rfl,true,Qh,hm,Xi⟩
   refine qm rfl<|qv rfl (Zp (a:=hC) (b:=0) rfl rfl)<|qm rfl<|Qi ?_
   exact⟨rfl,(decide (hC≠0)),Qh,hm,Xi⟩
 clear hm;rintro kQ co ⟨hm,h⟩
 have GG:=h.size
 unfold Nf at hm
 refine Zw hm rfl (fun c2 hm=>?_) (fun c2 hm=>?_)
 · refine qs 1 rfl<|qm rfl<|qb ?_
   have xX:=(sG.kz h)
   cases hm
   exact⟨_,_,rfl,Xj rfl (Qn rfl),rfl,xX⟩
 refine qu ?_
 have hZ:=(sG.kz h)
 refine qj (β:=Int × Xl × Nat × Value × Nat × Nat) ([3,20,21]++rg 177 9) (fun⟨jq,jr,bq39,vy41,zy41,gy41⟩=>[(3,.int .i64 jq),(20,.pointer (some ⟨bq39,0,none⟩))]) (fun⟨jq,jr,bq39,vy41,zy41,gy41⟩ wr=>(Qh0 n et y jq jr=some r)∧Qe wr zy41 gy41 120 18 vy41 (jr.Secret.Labels.map Zr.cs)∧Xk (zy41=0∨co.heap.size≤gy41)∧Bx wr bq39 105 (Xl.cs jr vy41)∧co.heap.size≤bq39∧Xk (zy41=0∨gy41≠bq39)∧Kz [] co wr) ?_ ?_
 · refine dw [([])] [] (.fork [(2,10),(3,10)] (.fork [(0,0)] (.fork [(1,0)] (.leaf [(4,0),(5,10),(6,10),(7,10),(8,10),(9,0),(10,0),(11,10),(12,10)]) (.leaf [(9,0),(4,0),(5,10),(6,10),(7,10),(8,10),(10,0),(11,10),(12,10)])) (.leaf [(9,0),(1,0),(4,0),(5,10),(6,10),(7,10),(8,10),(10,0),(11,10),(12,10)])) (.leaf [(9,0),(0,0),(1,0),(4,0),(5,10),(6,10),(7,10),(8,10),(10,0),(11,10),(12,10)])) ?_
   intro kR cp DO
   refine Zt ?_
   have sI:=((((cQ.gr bk).kz ba).kz h).gr cp)
   refine dh 0 rfl rfl (fun w hS=>Qu Ju rfl (Bx.kp sI hS) rfl) ?_
   have sJ:=((cR.kz h).gr cp)
   refine dh 0 rfl rfl (fun w hS=>Qu Zl rfl (Bx.kp sJ hS) rfl)<|Zs ?_ ?_
   · refine Zt ?_
     obtain⟨GH,sK,hm⟩:=Qd hm
     refine qz [] rfl (eC Yb rfl (Yc sK)) ⟨fun _=>Qb,trivial⟩ ?_
     rintro _ GI ⟨rfl,cS⟩
     have DP:=cS.size
     refine kG cS<|Zs ?_ ?_
     · refine Zt ?_
       obtain⟨GJ,sL,hm⟩:=Qd hm
       refine qz [] rfl (eC Jh rfl (Ji sL)) ⟨fun _=>Qb,trivial⟩ ?_
       rintro _ GK ⟨rfl,gF⟩
       have DQ:=gF.size
       refine kG gF<|Zs ?_ ?_
       · refine Xo ?_
         have kS:=Gr.trans (Gr.trans cp cS) gF
         have sM:=((((ae.gr bk).kz ba).kz h).gr kS)
         have sN:=((af.kz h).gr kS)
         have sO:=((ag.kz h).gr kS)
         have sP:=((ah.kz h).gr kS)
         obtain⟨sQ,sR,hm⟩:=Qd hm
         refine qz [] rfl (eC Wv rfl (Ww sR (Qe.rd sM) (Qe.rd sN) (Qe.rd sO) (Qe.rd sP))) ⟨fun _=>Qb,trivial⟩ ?_
         rintro _ GL ⟨h0,h1,h2,nS,nT,nU,rfl,cG,h3,h4,nV,xY,kT⟩
         have DR:=kT.size
         have js:=cG.lth
         have xZ:=h4.lth
         refine kG kT ?_
         have ew:=((((Kp.refl ([]) kR).gr cS).gr gF).gr kT)
         refine dn 0 rfl rfl ew<|dn 0 rfl rfl ew<|dn 0 rfl rfl ew<|dn 0 rfl rfl ew<|qz [] rfl (Qz (cs:=Xl.cs (Xl.mk (Xt.mk 0 [] (Qx.mk 0#64 0#64)) 0 (Jg.mk (Xw.mk false 0 k0) (Xw.mk false 0 k0))) (.slice none 0 0)) Vx rfl) ⟨fun _=>Qb,trivial⟩ ?_
         rintro _ GM ⟨nu,rfl,x0,l2,jt⟩
         have DS:=jt.size
         have ya:=l2.lt
         refine kG jt ?_
         have l3:=(cG.gr jt)
         refine qz [(1,nu)] rfl (Qr Ju rfl rfl (Xl.cs_ones _ _ (Qe.oneB l3)) l2 rfl rfl) ⟨fun _=>Qb,trivial⟩ ?_
         rintro _ yb ⟨sS,ju⟩
         have DT:=ju.size
         refine kM ju ?_
         have l4:=((ew.gr jt).md ju)
         refine dn 0 rfl rfl l4<|dn 0 rfl rfl l4<|Qi ?_
         have K_137:Kz [] co yb:=((((((Kz.gr (Kz.refl _ _) cp).gr cS).gr gF).gr kT).gr jt).md ju)
         have sT:=(l3.md ju (Qm js))
         exact⟨rfl,⟨sQ.2.2,sQ.1,nu,h0,h1,h2⟩,Qh,hm,sT,⟨(Qk (A:=(fun x=>co.heap.size≤x)) h3)⟩,sS,(by omega),⟨(Kq (A:=(fun x=>x≠nu)) js)⟩,K_137⟩
       refine Xo<|qz [] rfl (Qz (cs:=Xl.cs (Xl.mk (Xt.mk 0 [] (Qx.mk 0#64 0#64)) 0 (Jg.mk (Xw.mk false 0 k0) (Xw.mk false 0 k0))) (.slice none 0 0)) Vx rfl) ⟨fun _=>Qb,trivial⟩ ?_
       rintro _ GN ⟨nv,rfl,yc,l5,kU⟩
       have DU:=kU.size
       have yd:=l5.lt
       refine kG kU ?_
       have kV:=Gr.trans (Gr.trans (Gr.trans cp cS) gF) kU
       have sU:=((((ae.gr bk).kz ba).kz h).gr kV)
       have sV:=((af.kz h).gr kV)
       have sW:=((ag.kz h).gr kV)
       have sX:=((ah.kz h).gr kV)
       obtain⟨sY,sZ,hm⟩:=Qd hm
       refine qz [] rfl (eC Wv rfl (Ww sZ (Qe.rd sU) (Qe.rd sV) (Qe.rd sW) (Qe.rd sX))) ⟨fun _=>Qb,trivial⟩ ?_
       rintro _ GO ⟨h5,h6,h7,nW,nX,nY,rfl,bu,bw,h8,nZ,ye,kW⟩
       have DV:=kW.size
       have yf:=bu.lth
       have yg:=h8.lth
       refine kG kW ?_
       have s0:=Gr.trans (Gr.trans (Gr.trans cS gF) kU) kW
       have ex:=((Kp.refl ([]) kR).gr s0)
       refine dn 0 rfl rfl ex<|dn 0 rfl rfl ex<|dn 0 rfl rfl ex<|dn 0 rfl rfl ex ?_
       have s1:=(l5.gr kW)
       refine qz [(1,nv)] rfl (Qr Ju rfl rfl (Xl.cs_ones _ _ (Qe.oneB bu)) s1 rfl rfl) ⟨fun _=>Qb,trivial⟩ ?_
       rintro _ yh ⟨s2,jv⟩
       have DW:=jv.size
       refine kM jv ?_
       have l6:=(ex.md jv)
       refine dn 0 rfl rfl l6<|dn 0 rfl rfl l6<|Qi ?_
       have K_152:Kz [] co yh:=(((Kz.gr (Kz.refl _ _) cp).gr s0).md jv)
       have s3:=(bu.md jv (Qt bw))
       exact⟨rfl,⟨sY.2.2,sY.1,nv,h5,h6,h7⟩,Qh,hm,s3,⟨(Qk (A:=(fun x=>co.heap.size≤x)) bw)⟩,s2,(by omega),⟨(Qk (A:=(fun x=>x≠nv)) bw)⟩,K_152⟩
     refine Xo<|qz [] rfl (Qz (cs:=Xl.cs (Xl.mk (Xt.mk 0 [] (Qx.mk 0#64 0#64)) 0 (Jg.mk (Xw.mk false 0 k0) (Xw.mk false 0 k0))) (.slice none 0 0)) Vx rfl) ⟨fun _=>Qb,trivial⟩ ?_
     rintro _ GP ⟨nw,rfl,yi,l7,kX⟩
     have DX:=kX.size
     have yj:=l7.lt
     refine kG kX ?_
     obtain⟨GQ,s4,hm⟩:=Qd hm
     refine qz [] rfl (eC Jh rfl (Ji s4)) ⟨fun _=>Qb,trivial⟩ ?_
     rintro _ GR ⟨rfl,jw⟩
     have DY:=jw.size
     refine kG jw ?_
     have kY:=Gr.trans (Gr.trans (Gr.trans cp cS) kX) jw
     have s5:=((((ae.gr bk).kz ba).kz h).gr kY)
     have s6:=((af.kz h).gr kY)
     have s7:=((ag.kz h).gr kY)
     have s8:=((ah.kz h).gr kY)
     obtain⟨s9,ta,hm⟩:=Qd hm
     refine qz [] rfl (eC Wv rfl (Ww ta (Qe.rd s5) (Qe.rd s6) (Qe.rd s7) (Qe.rd s8))) ⟨fun _=>Qb,trivial⟩ ?_
     rintro _ GS ⟨h9,ia,ib,n0,n1,n2,rfl,bx,bz,ie,n3,yk,kZ⟩
     have DZ:=kZ.size
     have ym:=bx.lth
     have yn:=ie.lth
     refine kG kZ ?_
     have tb:=Gr.trans (Gr.trans (Gr.trans cS kX) jw) kZ
     have ey:=((Kp.refl ([]) kR).gr tb)
     refine dn 0 rfl rfl ey<|dn 0 rfl rfl ey<|dn 0 rfl rfl ey<|dn 0 rfl rfl ey ?_
     have tc:=((l7.gr jw).gr kZ)
     refine qz [(1,nw)] rfl (Qr Ju rfl rfl (Xl.cs_ones _ _ (Qe.oneB bx)) tc rfl rfl) ⟨fun _=>Qb,trivial⟩ ?_
     rintro _ yo ⟨td,jx⟩
     have D0:=jx.size
     refine kM jx ?_
     have l8:=(ey.md jx)
     refine dn 0 rfl rfl l8<|dn 0 rfl rfl l8<|Qi ?_
     have K_168:Kz [] co yo:=(((Kz.gr (Kz.refl _ _) cp).gr tb).md jx)
     have te:=(bx.md jx (Qt bz))
     exact⟨rfl,⟨s9.2.2,s9.1,nw,h9,ia,ib⟩,Qh,hm,te,⟨(Qk (A:=(fun x=>co.heap.size≤x)) bz)⟩,td,(by omega),⟨(Qk (A:=(fun x=>x≠nw)) bz)⟩,K_168⟩
   refine Xo<|qz [] rfl (Qz (cs:=Xl.cs (Xl.mk (Xt.mk 0 [] (Qx.mk 0#64 0#64)) 0 (Jg.mk (Xw.mk false 0 k0) (Xw.mk false 0 k0))) (.slice none 0 0)) Vx rfl) ⟨fun _=>Qb,trivial⟩ ?_
   rintro _ GT ⟨nx,rfl,yp,l9,la⟩
   have D1:=la.size
   have yq:=l9.lt
   refine kG la ?_
   obtain⟨GU,tf,hm⟩:=Qd hm
   refine qz [] rfl (eC Yb rfl (Yc tf)) ⟨fun _=>Qb,trivial⟩ ?_
   rintro _ GV ⟨rfl,jy⟩
   have D2:=jy.size
   refine kG jy ?_
   obtain⟨GW,tg,hm⟩:=Qd hm
   refine qz [] rfl (eC Jh rfl (Ji tg)) ⟨fun _=>Qb,trivial⟩ ?_
   rintro _ GX ⟨rfl,jz⟩
   have D3:=jz.size
   refine kG jz ?_
   have lb:=Gr.trans (Gr.trans (Gr.trans cp la) jy) jz
   have th:=((((ae.gr bk).kz ba).kz h).gr lb)
   have ti:=((af.kz h).gr lb)
   have tj:=((ag.kz h).gr lb)
   have tk:=((ah.kz h).gr lb)
   obtain⟨tl,tm,hm⟩:=Qd hm
   refine qz [] rfl (eC Wv rfl (Ww tm (Qe.rd th) (Qe.rd ti) (Qe.rd tj) (Qe.rd tk))) ⟨fun _=>Qb,trivial⟩ ?_
   rintro _ GY ⟨ig,ih,ii,n4,n5,n6,rfl,bA,bB,ij,n7,yr,lc⟩
   have D4:=lc.size
   have ys:=bA.lth
   have yt:=ij.lth
   refine kG lc ?_
   have tn:=Gr.trans (Gr.trans (Gr.trans la jy) jz) lc
   have ez:=((Kp.refl ([]) kR).gr tn)
   refine dn 0 rfl rfl ez<|dn 0 rfl rfl ez<|dn 0 rfl rfl ez<|dn 0 rfl rfl ez ?_
   have yu:=Gr.trans (Gr.trans jy jz) lc
   have tp:=(l9.gr yu)
   refine qz [(1,nx)] rfl (Qr Ju rfl rfl (Xl.cs_ones _ _ (Qe.oneB bA)) tp rfl rfl) ⟨fun _=>Qb,trivial⟩ ?_
   rintro _ yv ⟨tq,jA⟩
   have D5:=jA.size
   refine kM jA ?_
   have ma:=(ez.md jA)
   refine dn 0 rfl rfl ma<|dn 0 rfl rfl ma<|Qi ?_
   have K_185:Kz [] co yv:=(((Kz.gr (Kz.refl _ _) cp).gr tn).md jA)
   have tr:=(bA.md jA (Qt bB))
   exact⟨rfl,⟨tl.2.2,tl.1,nx,ig,ih,ii⟩,Qh,hm,tr,⟨(Qk (A:=(fun x=>co.heap.size≤x)) bB)⟩,tq,(by omega),⟨(Qk (A:=(fun x=>x≠nx)) bB)⟩,K_185⟩
 clear hm;rintro⟨jq,jr,bq39,vy41,zy41,gy41⟩ GZ ⟨hm,he,hf,hg,uY,uZ,ad⟩
 have G0:=ad.size
 have D6:=he.lth
 have D7:=hg.lt
 unfold Qh0 at hm
 refine Qj<|dw [([])] [] (.leaf [(2,10),(3,10),(0,0),(1,0),(4,0),(5,10),(6,10),(7,10),(8,10),(9,10)]) ?_
 intro yw ny D8
 refine Xo ?_
 have ts:=(hg.gr ny)
 refine dh 0 rfl rfl (fun w hS=>Qu Ju rfl (Bx.kp ts hS) rfl) ?_
 have tt:=(((cR.kz h).kz ad).gr ny)
 refine dh 0 rfl rfl (fun w hS=>Qu Zl rfl (Bx.kp tt hS) rfl) ?_
 obtain⟨G3,tu,hm⟩:=Qd hm
 refine qz [] rfl (eC Yb rfl (Yc tu)) ⟨fun _=>Qb,trivial⟩ ?_
 rintro _ G4 ⟨rfl,ld⟩
 have Hx:=ld.size
 refine kG ld ?_
 obtain⟨HA,tv,hm⟩:=Qd hm
 refine qz [] rfl (eC Jh rfl (Ji tv)) ⟨fun _=>Qb,trivial⟩ ?_
 rintro _ HB ⟨rfl,lf⟩
 have HC:=lf.size
 refine kG lf ?_
 have jB:=Gr.trans (Gr.trans ny ld) lf
 have tw:=(he.gr jB)
 have tx:=(((af.kz h).kz ad).gr jB)
 have ty:=(((ag.kz h).kz ad).gr jB)
 have tz:=(((ah.kz h).kz ad).gr jB)
 obtain⟨yx,tA,hm⟩:=Qd hm
 refine qz [] rfl (eC Wv rfl (Ww tA (Qe.rd tw) (Qe.rd tx) (Qe.rd ty) (Qe.rd tz))) ⟨fun _=>Qb,trivial⟩ ?_
 rintro _ HD ⟨n8,n9,oa,ob,oc,oe,rfl,ik,og,il,oh,yy,jC⟩
 have HE:=jC.size
 have D9:=ik.lth
 have Eq:=il.lth
 refine kG jC ?_
 have tB:=Gr.trans (Gr.trans ld lf) jC
 have jD:=((Kp.refl ([]) yw).gr tB)
 refine dn 0 rfl rfl jD<|dn 0 rfl rfl jD<|dn 0 rfl rfl jD<|dn 0 rfl rfl jD<|dn 0 rfl rfl jD<|Qa<|Qj ?_
 refine dw [([])] [] (.leaf [(2,10),(3,10),(0,0),(1,0),(4,0),(5,10),(6,10),(7,10),(8,10),(9,10)]) ?_
 intro yz nz Ex
 refine Xo ?_
 have tC:=Gr.trans (Gr.trans jB jC) nz
 have tD:=(((((cQ.gr bk).kz ba).kz h).kz ad).gr tC)
 refine dh 0 rfl rfl (fun w hS=>Qu Ju rfl (Bx.kp tD hS) rfl) ?_
 have tE:=Gr.trans tB nz
 have tF:=(tt.gr tE)
 refine dh 0 rfl rfl (fun w hS=>Qu Zl rfl (Bx.kp tF hS) rfl) ?_
 obtain⟨HF,tG,hm⟩:=Qd hm
 refine qz [] rfl (eC Yb rfl (Yc tG)) ⟨fun _=>Qb,trivial⟩ ?_
 rintro _ HG ⟨rfl,jE⟩
 have HH:=jE.size
 refine kG jE ?_
 obtain⟨HI,tH,hm⟩:=Qd hm
 refine qz [] rfl (eC Jh rfl (Ji tH)) ⟨fun _=>Qb,trivial⟩ ?_
 rintro _ HJ ⟨rfl,jF⟩
 have HK:=jF.size
 refine kG jF ?_
 have tI:=Gr.trans (Gr.trans tC jE) jF
 have tJ:=(((((ae.gr bk).kz ba).kz h).kz ad).gr tI)
 have lh:=Gr.trans (Gr.trans (Gr.trans jC nz) jE) jF
 have tK:=(tx.gr lh)
 have tL:=(ty.gr lh)
 have tM:=(tz.gr lh)
 obtain⟨yA,tN,hm⟩:=Qd hm
 refine qz [] rfl (eC Wv rfl (Ww tN (Qe.rd tJ) (Qe.rd tK) (Qe.rd tL) (Qe.rd tM))) ⟨fun _=>Qb,trivial⟩ ?_
 rintro _ HL ⟨oi,oj,ok,ol,om,oo,rfl,im,op,io,oq,yB,cT⟩
 have HM:=cT.size
 have EA:=im.lth
 have EB:=io.lth
 refine kG cT ?_
 have li:=Gr.trans (Gr.trans jE jF) cT
 have jG:=((Kp.refl ([]) yz).gr li)
 refine dn 0 rfl rfl jG<|dn 0 rfl rfl jG<|dn 0 rfl rfl jG<|dn 0 rfl rfl jG<|dn 0 rfl rfl jG<|Qa<|Qj ?_
 refine qg 7 rfl<|qv rfl (Qg Na rfl) ?_
 obtain⟨yC,mb,hm⟩:=Qd hm
 refine qv rfl (Te (i:=3) (p:=y.Mac) Tryz.underlying36 (Zj).siz rfl rfl mb) ?_
 have tO:=(tF.gr li)
 refine qv rfl (Ci (off:=40) (p:=y.Mac) (i:=3) Zj rfl tO rfl mb (by omega))<|qv rfl (Qnv (p:=yC) (q:=1#8) rfl rfl)<|qv rfl (Qg Na rfl) ?_
 obtain⟨HN,tP,hm⟩:=Qd hm
 refine qv rfl (Te (i:=3) (p:=y.Mac) Tryz.underlying36 (Zj).siz rfl rfl tP) ?_
 obtain⟨tQ,tR,hm⟩:=Qd hm
 refine qe rfl (Ia (off:=40) (p:=y.Mac) (q:=tQ) (i:=3) (cs':=Qo.cs (Qo.mk y.Kind y.Epoch y.Head y.Low y.Number y.Data tQ) vy33 vy34 vy35) (Zj).siz rfl rfl tO rfl tR rfl rfl rfl) ?_
 rintro _ HO ⟨tS,C⟩
 have HP:=C.size
 refine Qa<|Qj<|dw [([])] [] (.leaf [(2,10),(3,10),(0,0),(1,0),(4,0),(5,10),(6,10),(7,10),(8,10),(9,10)]) ?_
 intro yD nA EC
 refine Xo ?_
 have yE:=(((tD.gr li).md C).gr nA)
 refine dh 0 rfl rfl (fun w hS=>Qu Ju rfl (Bx.kp yE hS) rfl) ?_
 have yF:=(tS.gr nA)
 refine dh 0 rfl rfl (fun w hS=>Qu Zl rfl (Bx.kp yF hS) rfl) ?_
 obtain⟨HQ,tT,hm⟩:=Qd hm
 refine qz [] rfl (eC Yb rfl (Yc tT)) ⟨fun _=>Qb,trivial⟩ ?_
 rintro _ HR ⟨rfl,lj⟩
 have HS:=lj.size
 refine kG lj ?_
 obtain⟨HT,tU,hm⟩:=Qd hm
 refine qz [] rfl (eC Jh rfl (Ji tU)) ⟨fun _=>Qb,trivial⟩ ?_
 rintro _ HU ⟨rfl,ll⟩
 have HW:=ll.size
 refine kG ll ?_
 have jH:=Gr.trans (Gr.trans nA lj) ll
 have yG:=(((tJ.gr cT).md C (Qm r9)).gr jH)
 have yH:=(((tK.gr cT).md C (Qc ((Qc jn.o):zy33=0∨gy33≠bq31))).gr jH)
 have yI:=(((tL.gr cT).md C (Qc ((Qc jo.o):zy34=0∨gy34≠bq31))).gr jH)
 have yJ:=(((tM.gr cT).md C (Qc ((Qc jp.o):zy35=0∨gy35≠bq31))).gr jH)
 obtain⟨yK,tV,hm⟩:=Qd hm
 refine qz [] rfl (eC Wv rfl (Ww tV (Qe.rd yG) (Qe.rd yH) (Qe.rd yI) (Qe.rd yJ))) ⟨fun _=>Qb,trivial⟩ ?_
 rintro _ HX ⟨os,ot,ou,ov,ow,ox,rfl,ip,oy,iq,oz,yL,lm⟩
 have HY:=lm.size
 have ED:=ip.lth
 have EE:=iq.lth
 refine kG lm ?_
 have yM:=Gr.trans (Gr.trans lj ll) lm
 have jI:=((Kp.refl ([]) yD).gr yM)
 refine dn 0 rfl rfl jI<|dn 0 rfl rfl jI<|dn 0 rfl rfl jI<|dn 0 rfl rfl jI<|dn 0 rfl rfl jI<|Qa<|Qj ?_
 refine qg 7 rfl<|qv rfl (Qg Na rfl) ?_
 obtain⟨yN,mc,hm⟩:=Qd hm
 refine qv rfl (Te (i:=0) (p:=n.Mac) Tryz.underlying36 (Zj).siz rfl rfl mc) ?_
 have cq:=Gr.trans tI cT
 have bI:=Gr.trans jH lm
 have tW:=(((((((((((cM.gr cN).kz cO).gr cP).kz eu).gr bk).kz ba).kz h).kz ad).gr cq).md C).gr bI)
 refine qv rfl (Ci (off:=40) (p:=n.Mac) (i:=0) Zj rfl tW rfl mc (by omega))<|qv rfl (Qnv (p:=yN) (q:=1#8) rfl rfl)<|qv rfl (Qg Na rfl) ?_
 obtain⟨HZ,tX,hm⟩:=Qd hm
 refine qv rfl (Te (i:=0) (p:=n.Mac) Tryz.underlying36 (Zj).siz rfl rfl tX) ?_
 obtain⟨tY,tZ,hm⟩:=Qd hm
 refine qe rfl (Ia (off:=40) (p:=n.Mac) (q:=tY) (i:=0) (cs':=Qo.cs (Qo.mk n.Kind n.Epoch n.Head n.Low n.Number n.Data tY) vy18 vy19 vy20) (Zj).siz rfl rfl tW rfl tZ rfl rfl rfl) ?_
 rintro _ H0 ⟨t0,bJ⟩
 have EF:=bJ.size
 refine Qa<|Qj<|dw [([])] [] (.leaf [(2,10),(3,10),(0,0),(1,0),(4,0),(5,10),(6,10),(7,10),(8,10),(9,10)]) ?_
 intro yO nB EG
 refine Xo ?_
 have yP:=Gr.trans tE li
 have t1:=(((((ts.gr yP).md C).gr bI).md bJ).gr nB)
 refine dh 0 rfl rfl (fun w hS=>Qu Ju rfl (Bx.kp t1 hS) rfl) ?_
 have t2:=(t0.gr nB)
 refine dh 0 rfl rfl (fun w hS=>Qu Zl rfl (Bx.kp t2 hS) rfl) ?_
 obtain⟨H1,t3,hm⟩:=Qd hm
 refine qz [] rfl (eC Yb rfl (Yc t3)) ⟨fun _=>Qb,trivial⟩ ?_
 rintro _ H2 ⟨rfl,ln⟩
 have EH:=ln.size
 refine kG ln ?_
 obtain⟨H3,t4,hm⟩:=Qd hm
 refine qz [] rfl (eC Jh rfl (Ji t4)) ⟨fun _=>Qb,trivial⟩ ?_
 rintro _ H4 ⟨rfl,lo⟩
 have EI:=lo.size
 refine kG lo ?_
 have yQ:=Gr.trans lh cT
 have cr:=Gr.trans (Gr.trans nB ln) lo
 have t5:=(((((tw.gr yQ).md C (Qt hf)).gr bI).md bJ (Qt hf)).gr cr)
 have t6:=(((((((((((((cJ.gr cN).kz cO).gr cP).kz eu).gr bk).kz ba).kz h).kz ad).gr cq).md C (Qm rt)).gr bI).md bJ (Qc ((Qc iZ.o):zy18=0∨gy18≠bq16))).gr cr)
 have t7:=(((((((((((((cK.gr cN).kz cO).gr cP).kz eu).gr bk).kz ba).kz h).kz ad).gr cq).md C (Qm ru)).gr bI).md bJ (Qc ((Qc i0.o):zy19=0∨gy19≠bq16))).gr cr)
 have t8:=(((((((((((((cL.gr cN).kz cO).gr cP).kz eu).gr bk).kz ba).kz h).kz ad).gr cq).md C (Qm rv)).gr bI).md bJ (Qc ((Qc i1.o):zy20=0∨gy20≠bq16))).gr cr)
 obtain⟨yR,t9,hm⟩:=Qd hm
 refine qz [] rfl (eC Wv rfl (Ww t9 (Qe.rd t5) (Qe.rd t6) (Qe.rd t7) (Qe.rd t8))) ⟨fun _=>Qb,trivial⟩ ?_
 rintro _ H5 ⟨oA,oB,oC,oD,oE,oF,rfl,ir,oG,it,oH,yS,cU⟩
 have EJ:=cU.size
 have yT:=ir.lth
 have yU:=it.lth
 refine kG cU ?_
 have yV:=Gr.trans (Gr.trans ln lo) cU
 have eA:=((Kp.refl ([]) yO).gr yV)
 refine dn 0 rfl rfl eA<|dn 0 rfl rfl eA<|dn 0 rfl rfl eA<|dn 0 rfl rfl eA<|dn 0 rfl rfl eA<|Qa<|Qj ?_
 refine qg 24 rfl<|qm rfl<|qv rfl (Kw (a:=jq) (b:=0) rfl rfl)<|Kr hm rfl (Qw rfl) (fun c3 hm=>?_) (fun c3 hm=>?_)
 · refine qn 7 rfl ?_
   refine qn 7 rfl ?_
   refine qn 7 rfl ?_
   refine Qa<|Qs ?_
   have yW:=Gr.trans cr cU
   have ua:=((((((hZ.kz ad).trans cq).md C).trans bI).md bJ).trans yW)
   cases hm
   exact⟨_,_,rfl,Xj rfl (Qn rfl),rfl,ua⟩
 refine qm rfl<|qv rfl (Kw (a:=yx.2.2) (b:=52) rfl rfl)<|qm rfl<|Kr hm rfl (Qw rfl) (fun c4 hm=>?_) (fun c4 hm=>?_)
 · refine qn 7 rfl ?_
   refine qn 7 rfl ?_
   refine qn 3 rfl<|Qa<|Qs ?_
   have yX:=Gr.trans cr cU
   have ub:=((((((hZ.kz ad).trans cq).md C).trans bI).md bJ).trans yX)
   cases hm
   exact⟨_,_,rfl,Xj rfl (Qn rfl),rfl,ub⟩
 refine qm rfl<|qv rfl (Kw (a:=yA.2.2) (b:=51) rfl rfl)<|qm rfl<|Kr hm rfl (Qw rfl) (fun c5 hm=>?_) (fun c5 hm=>?_)
 · refine qn 7 rfl ?_
   refine qn 6 rfl<|Qa ?_
   refine Qs ?_
   have yY:=Gr.trans cr cU
   have uc:=((((((hZ.kz ad).trans cq).md C).trans bI).md bJ).trans yY)
   cases hm
   exact⟨_,_,rfl,Xj rfl (Qn rfl),rfl,uc⟩
 refine qm rfl<|qv rfl (Kw (a:=yK.2.2) (b:=53) rfl rfl)<|qm rfl<|Kr hm rfl (Qw rfl) (fun c6 hm=>?_) (fun c6 hm=>?_)
 · refine qn 7 rfl ?_
   refine qn 2 rfl<|Qa<|Qs ?_
   have yZ:=Gr.trans cr cU
   have ud:=((((((hZ.kz ad).trans cq).md C).trans bI).md bJ).trans yZ)
   cases hm
   exact⟨_,_,rfl,Xj rfl (Qn rfl),rfl,ud⟩
 refine qm rfl<|qv rfl (Kw (a:=yR.2.2) (b:=53) rfl rfl)<|qm rfl<|Kr hm rfl (Qw rfl) (fun c7 hm=>?_) (fun c7 hm=>?_)
 · refine qn 5 rfl<|Qa<|Qs ?_
   have y0:=Gr.trans cr cU
   have ue:=((((((hZ.kz ad).trans cq).md C).trans bI).md bJ).trans y0)
   cases hm
   exact⟨_,_,rfl,Xj rfl (Qn rfl),rfl,ue⟩
 refine qv rfl (Zk (cs:=Xn.cs (Xn.mk 5#8 0 0 (Vi.mk 0#64 0#64 0#64))) Qei rfl rfl) ?_
 obtain⟨y1,uf,hm⟩:=Qd hm
 refine qe rfl (eC Qkq rfl (Ql1 uf)) ?_
 rintro _ H6 ⟨rfl,ug⟩
 have EK:=ug.size
 refine qv rfl (Kw (a:=y1) (b:=2) rfl rfl)<|qn 2 rfl<|Qa<|Qs ?_
 have uh:=((((((((hZ.kz ad).trans cq).md C).trans bI).md bJ).trans cr).trans cU).trans ug)
 cases hm
 exact⟨_,_,rfl,Xj rfl (Qn rfl),rfl,uh⟩
end Go.Proofs.YtplcaaglieefgaaGreat.Mx
