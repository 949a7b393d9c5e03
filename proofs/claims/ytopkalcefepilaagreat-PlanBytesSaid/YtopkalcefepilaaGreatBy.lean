/- Walks that follow mirrors: By. Printed by mx.py. -/
import Derived.Test.YtopkalcefepilaaGreatHe
import Derived.Test.YtopkalcefepilaaGreatZd
set_option linter.unusedVariables false
set_option linter.unusedSimpArgs false
set_option maxRecDepth 100000
set_option maxHeartbeats 2000000
namespace Go.Proofs.YtopkalcefepilaaGreat.Mx
open Go Go.RowKit Go.Sx
theorem Qzg:En Tryz.prog 8:=fun _ _=>by kernel_rfl
theorem Qy6:En Tryz.prog 10:=fun _ _=>by kernel_rfl
theorem Qy9:En Tryz.prog 11:=fun _ _=>by kernel_rfl
theorem Qpo:En Tryz.prog 12:=fun _ _=>by kernel_rfl
theorem Qpq:En Tryz.prog 13:=fun _ _=>by kernel_rfl
theorem Qyj:En Tryz.prog 14:=fun _ _=>by kernel_rfl
theorem Xbu {p0 p1 p2 p3 p4 vp4 zp4 gp4 op4 r}(hm:Qg5 p0 p1 p2 p3 p4=some r){w:World}(ab:Rd w zp4 gp4 op4 1 vp4 (p4.map ic)):
 Calls Tryz.prog 4 [.agg (Zs.cs p0).toArray,bv p1,kv p2,.int .i64 p3,vp4].toArray w fun e w'=>∃ v,e=.returned v∧(v=.bool r∧Gr w w'):=by
 have aS:=ab.lth
 unfold Qg5 at hm
 refine Xi 147 Tryz.func4 rfl rfl rfl<|qs 3 rfl<|qe rfl (Xo (cs:=Zs.cs p0) rfl rfl) ?_
 rintro _ w1 ⟨b1,rfl,cB,ac,G1⟩
 have z2:=G1.size
 have cK:=ac.lt
 refine qe rfl (Xo (cs:=kb p2) rfl rfl) ?_
 rintro _ w2 ⟨b2,rfl,cC,aT,G2⟩
 have z4:=G2.size
 have cL:=aT.lt
 refine qm rfl<|qd 2 rfl ?_
 obtain⟨x1,bE,hm⟩:=Qd hm
 refine qe rfl (eC Qzg rfl (Xbv bE)) ?_
 rintro _ w3 ⟨rfl,G3⟩
 have z6:=G3.size
 refine qm rfl<|Qa<|Qe ?_
 have Y1:=Gr.trans (Gr.trans G1 G2) G3
 have X7:=((Gr.refl w).trans Y1)
 refine qj (β:=Bool) (rg 28 14) (fun a2=>[(41,.bool a2)]) (fun a2 wr=>(Ec p0 p1 p2 p3 p4 x1 a2=some r)∧Kz [] w3 wr) ?_ ?_
 · refine qg 14 rfl<|qm rfl ?_
   have S:=(ab.gr Y1)
   refine qv rfl (Kq (l:=p4) (c:=ic) Tryz.underlying30 rfl S)<|qv rfl (Wr (a:=(p4.length:Int)) (b:=100) rfl rfl)<|Ji hm rfl (Qt rfl) (fun bF hm=>?_) (fun bF hm=>?_)
   · refine qn 7 rfl ?_
     refine qn 3 rfl<|Qk ?_
     exact⟨rfl,true,Ql,hm,Xe⟩
   refine qm rfl<|qv rfl (Kq (l:=p4) (c:=ic) Tryz.underlying30 rfl S)<|qv rfl (Qh Qcw rfl) ?_
   have Y2:=Gr.trans G2 G3
   have aU:=(ac.gr Y2)
   refine qv rfl (Qi (v:=.int .i64 p0.Revoked) Qm rfl aU rfl)<|qv rfl (Wr (a:=(p4.length:Int)) (b:=p0.Revoked) rfl rfl)<|qm rfl<|Ji hm rfl (Qt rfl) (fun bG hm=>?_) (fun bG hm=>?_)
   · refine qn 3 rfl<|Qk ?_
     exact⟨rfl,true,Ql,hm,Xe⟩
   refine qm rfl<|qv rfl (Kd rfl)<|qm rfl<|Qk ?_
   exact⟨rfl,(!x1),Ql,hm,Xe⟩
 clear hm;rintro a2 w4 ⟨hm,K4⟩
 have z8:=K4.size
 unfold Ec at hm
 refine Jo hm rfl (fun c1 hm=>?_) (fun c1 hm=>?_)
 · refine qs 2 rfl<|qn 2 rfl<|Qa<|Qq<|Xz ?_
   have X9:=(X7.kz K4)
   cases hm
   exact⟨_,_,rfl,Qz rfl (Qn rfl),rfl,X9⟩
 refine qu<|qs 9 rfl ?_
 have Y3:=Gr.trans G2 G3
 have aV:=((ac.gr Y3).kz K4)
 refine qv rfl (Xa Ib rfl aV rfl)<|qm rfl ?_
 obtain⟨x3,bH,hm⟩:=Qd hm
 refine qe rfl (eC Qk3 rfl (Qlf bH)) ?_
 rintro _ w5 ⟨y,z,A,rfl,B,aW,G5⟩
 have cM:=G5.size
 have T:=B.lth
 refine qn 3 rfl<|qe rfl (Xg (cs:=Xs.cs (Xs.mk 0#8 false 0 0 0 0 0 []) (.slice none 0 0)) Cz rfl) ?_
 rintro _ w6 ⟨b6,rfl,cD,aX,G6⟩
 have cN:=G6.size
 have cE:=aX.lt
 have aY:=(B.gr G6)
 refine qe rfl (Xf Wc rfl rfl (Xs.cs_ones _ _ (Qg.oneB aY)) aX rfl rfl) ?_
 rintro _ w7 ⟨aZ,M7⟩
 have cO:=M7.size
 refine qm rfl<|qd 5 rfl ?_
 have Y4:=Gr.trans G5 G6
 have bI:=((aV.gr Y4).md M7)
 refine qv rfl (Xa Ib rfl bI rfl)<|qm rfl ?_
 obtain⟨x4,bJ,hm⟩:=Qd hm
 refine qe rfl (eC Qy6 rfl (Xet bJ)) ?_
 rintro _ w8 ⟨rfl,G8⟩
 have cP:=G8.size
 refine qe rfl (Xg (cs:=Qj.cs (Qj.mk 0#8 0 0 (Jb.mk 0#64 0#64 0#64))) Ar rfl) ?_
 rintro _ w9 ⟨b9,rfl,cF,a0,G9⟩
 have cQ:=G9.size
 have cG:=a0.lt
 refine qe rfl (Xf Zq rfl rfl rfl a0 rfl rfl) ?_
 rintro _ bK ⟨U,D⟩
 have cR:=D.size
 refine Qa<|Qe ?_
 have Y5:=Gr.trans G8 G9
 have ad:=(((((X7.kz K4).trans Y4).md M7).trans Y5).md D)
 refine qj (β:=Bool) (rg 52 7) (fun a5=>[(58,.bool a5)]) (fun a5 wr=>(Bt p1 p2 p3 p4 x1 x3 x4 a5=some r)∧Kz [] bK wr) ?_ ?_
 · refine qg 7 rfl<|qm rfl<|qv rfl (Kg (a:=x3.2) (b:=0) rfl rfl)<|Ji hm rfl (Qt rfl) (fun bL hm=>?_) (fun bL hm=>?_)
   · refine qn 4 rfl<|Qk ?_
     exact⟨rfl,true,Ql,hm,Xe⟩
   refine qv rfl (Xa Zq rfl U rfl) ?_
   obtain⟨a1,a3,hm⟩:=Qd hm
   refine qe rfl (eC Qy9 rfl (Qzt a3)) ?_
   rintro _ cS ⟨rfl,a4⟩
   have cT:=a4.size
   refine qv rfl (Kg (a:=a1) (b:=0) rfl rfl)<|qm rfl<|Qk ?_
   exact⟨rfl,(decide (a1≠0)),Ql,hm,(Xe.gr a4)⟩
 clear hm;rintro a5 P ⟨hm,i⟩
 have cU:=i.size
 unfold Bt at hm
 refine Jo hm rfl (fun c2 hm=>?_) (fun c2 hm=>?_)
 · refine qs 7 rfl<|qm rfl<|Ra hm rfl (Qt rfl) (fun c3 hm=>?_) (fun c3 hm=>?_)
   · refine qn 5 rfl<|Qa<|Qq ?_
     refine Xz ?_
     have bM:=(ad.kz i)
     cases hm
     exact⟨_,_,rfl,Qz rfl (Qn rfl),rfl,bM⟩
   refine qv rfl (Qh Uv rfl) ?_
   have bN:=(((aZ.gr Y5).md D).kz i)
   refine qv rfl (Qi (v:=.int .i64 x3.1.Header) Qm rfl bN rfl)<|qv rfl (Zu (a:=x3.1.Header) (b:=0) rfl rfl)<|qn 2 rfl<|Qa<|Qq<|Xz ?_
   have bO:=(ad.kz i)
   cases hm
   exact⟨_,_,rfl,Qz rfl (Qn rfl),rfl,bO⟩
 refine qu<|qs 3 rfl<|qv rfl (Qh Qfn rfl) ?_
 have a7:=(((aZ.gr Y5).md D).kz i)
 refine qv rfl (Qi (v:=y) Vr rfl a7 rfl)<|qm rfl<|Qa ?_
 have a8:=(ad.kz i)
 refine qj (β:=List Int × Value × Nat × Nat) [15,67,68] (fun⟨a6,vy7,zy7,gy7⟩=>[(15,vy7)]) (fun⟨a6,vy7,zy7,gy7⟩ wr=>(Bu p1 p2 p3 p4 x1 x3 x4 a6=some r)∧Qg wr zy7 gy7 3 1 vy7 (a6.map ic)∧Xd (zy7=0∨(gy7=A∧z≠0)∨P.heap.size≤gy7)∧Kz [] P wr) ?_ ?_
 · refine qs 2 rfl<|qm rfl<|qv rfl (Vt (p:=p1) (q:=4#8) rfl rfl)<|Qa<|Zv hm rfl (fun bP hm=>?_) (fun bP hm=>?_)
   · refine qg 1 rfl<|qm rfl<|Qk ?_
     exact⟨rfl,⟨[],(.slice none 0 0),0,0⟩,Ql,hm,(Zi _ 0 3 1),⟨(.inl rfl)⟩,Xe⟩
   refine Jn ?_
   have K_95:Kz [] P P:=(Kz.refl _ _)
   have bQ:=((((aY.md M7 (Qw T)).gr Y5).md D (Qw T)).kz i)
   exact⟨rfl,⟨x3.1.Witness,y,z,A⟩,Ql,hm,bQ,⟨Qf⟩,K_95⟩
 clear hm;rintro⟨a6,vy7,zy7,gy7⟩ cV ⟨hm,F,bD,E⟩
 have cW:=E.size
 have a9:=F.lth
 unfold Bu at hm
 refine qs 11 rfl ?_
 have ba:=((((((((aT.gr G3).kz K4).gr Y4).md M7).gr Y5).md D).kz i).kz E)
 refine qv rfl (Xa Xk rfl ba rfl) ?_
 have bb:=((U.kz i).kz E)
 refine qv rfl (Xa Zq rfl bb rfl)<|qn 2 rfl ?_
 have bR:=((((((((ab.gr Y1).kz K4).gr Y4).md M7 (Qw aS)).gr Y5).md D (Qw aS)).kz i).kz E)
 obtain⟨x8,bS,hm⟩:=Qd hm
 refine qe rfl (eC Qpo rfl (Qqc bS bR)) ?_
 rintro _ cX ⟨ap,aq,ar,au,av,aw,ae,af,ag,rfl,m,ax,n,ay,g,ah,bT,bU,bV,bc⟩
 have cY:=bc.size
 have V:=m.lth
 have W:=n.lth
 have X:=g.lth
 refine qn 3 rfl<|qe rfl (Xg (cs:=Zl.cs (Zl.mk 0#8 0 (Qy.mk [] 0#64 [] k0 k0) 0#8 0#64 [] k0) (.slice none 0 0) (.slice none 0 0) (.slice none 0 0)) Qeb rfl) ?_
 rintro _ cZ ⟨c0,rfl,bW,Y,L⟩
 have da:=L.size
 have cH:=Y.lt
 have bd:=(m.gr L)
 have bf:=(n.gr L)
 have bg:=(g.gr L)
 refine qe rfl (Xf Th rfl rfl (Zl.cs_ones _ _ _ _ (Qg.oneB bd) (Qg.oneB bf) (Qg.oneB bg)) Y rfl rfl) ?_
 rintro _ db ⟨bh,j⟩
 have dc:=j.size
 refine qm rfl<|qd 11 rfl ?_
 have Y6:=Gr.trans bc L
 have bi:=((ba.gr Y6).md j)
 refine qv rfl (Xa Xk rfl bi rfl) ?_
 have bj:=((bb.gr Y6).md j)
 refine qv rfl (Xa Zq rfl bj rfl)<|qn 2 rfl ?_
 have bX:=((F.gr Y6).md j (Qw a9))
 obtain⟨x9,bY,hm⟩:=Qd hm
 refine qe rfl (eC Qpo rfl (Qqc bY (Qg.rd bX))) ?_
 rintro _ de ⟨az,aA,aB,aC,aD,aE,ai,aj,ak,rfl,o,aF,s,aG,h,al,bZ,b0,b3,am⟩
 have df:=am.size
 have bk:=o.lth
 have bl:=s.lth
 have bm:=h.lth
 refine qn 3 rfl<|qe rfl (Xg (cs:=Zl.cs (Zl.mk 0#8 0 (Qy.mk [] 0#64 [] k0 k0) 0#8 0#64 [] k0) (.slice none 0 0) (.slice none 0 0) (.slice none 0 0)) Qeb rfl) ?_
 rintro _ dg ⟨di,rfl,b4,Z,G⟩
 have dj:=G.size
 have cI:=Z.lt
 have bo:=(o.gr G)
 have bp:=(s.gr G)
 have bq:=(h.gr G)
 refine qe rfl (Xf Th rfl rfl (Zl.cs_ones _ _ _ _ (Qg.oneB bo) (Qg.oneB bp) (Qg.oneB bq)) Z rfl rfl) ?_
 rintro _ dk ⟨br,d⟩
 have dl:=d.size
 refine qm rfl<|Qa<|Qe<|qs 2 rfl<|qm rfl<|qv rfl (Kg (a:=x8.2) (b:=0) rfl rfl) ?_
 refine Qa<|Zv hm rfl (fun c4 hm=>?_) (fun c4 hm=>?_)
 · refine qs 2 rfl<|qn 2 rfl<|Qa<|Qq<|Xz ?_
   have Y7:=Gr.trans am G
   have b5:=(((((a8.kz E).trans Y6).md j).trans Y7).md d)
   cases hm
   exact⟨_,_,rfl,Qz rfl (Qn rfl),rfl,b5⟩
 refine qu<|qs 7 rfl ?_
 have Y8:=Gr.trans am G
 have b7:=((bh.gr Y8).md d)
 refine qv rfl (Xa Th rfl b7 rfl) ?_
 have b8:=(((bd.md j (Qw V)).gr Y8).md d (Qw V))
 have ca:=(((bf.md j (Qw W)).gr Y8).md d (Qw W))
 have cb:=(((bg.md j (Qw X)).gr Y8).md d (Qw X))
 obtain⟨Q,bs,hm⟩:=Qd hm
 refine qe rfl (eC Qpq rfl (Qqb bs (Qg.rd b8) (Qg.rd ca) (Qg.rd cb))) ?_
 rintro _ dp ⟨aH,aI,aJ,rfl,t,aK,H⟩
 have dq:=H.size
 have bu:=t.lth
 refine qn 5 rfl<|Qa<|Qe ?_
 refine qg 7 rfl ?_
 have cc:=(br.gr H)
 refine qv rfl (Xa Th rfl cc rfl) ?_
 have cd:=((bo.md d (Qw bk)).gr H)
 have ce:=((bp.md d (Qw bl)).gr H)
 have cf:=((bq.md d (Qw bm)).gr H)
 obtain⟨R,bw,hm⟩:=Qd hm
 refine qe rfl (eC Qpq rfl (Qqb bw (Qg.rd cd) (Qg.rd ce) (Qg.rd cf))) ?_
 rintro _ dr ⟨aL,aM,aN,rfl,u,aO,an⟩
 have ds:=an.size
 have bx:=u.lth
 refine qn 5 rfl<|Qa<|Qe ?_
 refine qg 9 rfl ?_
 have Y9:=Gr.trans H an
 have cg:=(((bi.gr Y8).md d).gr Y9)
 refine qv rfl (Xa Xk rfl cg rfl) ?_
 have ch:=(((bj.gr Y8).md d).gr Y9)
 refine qv rfl (Xa Zq rfl ch rfl) ?_
 obtain⟨M,bz,hm⟩:=Qd hm
 refine qe rfl (eC Qyj rfl (Qzv bz)) ?_
 rintro _ dt ⟨I,aP,aQ,rfl,x,aR,N⟩
 have du:=N.size
 have bA:=x.lth
 refine qn 3 rfl<|qe rfl (Xg (cs:=Xp.cs (Xp.mk 0 [] (Xq.mk 0#64 0#64)) (.slice none 0 0)) Qbt rfl) ?_
 rintro _ dv ⟨dy,rfl,ci,aa,J⟩
 have dz:=J.size
 have cJ:=aa.lt
 have bB:=(x.gr J)
 refine qe rfl (Xf Yi rfl rfl (Xp.cs_ones _ _ (Qg.oneB bB)) aa rfl rfl) ?_
 rintro _ cj ⟨bC,K⟩
 have dA:=K.size
 refine qm rfl<|qd 5 rfl<|qv rfl (Qh Qkh rfl)<|qv rfl (Qi (v:=I) Qgk rfl bC rfl) ?_
 have ck:=(bB.md K (Qw bA))
 refine qv rfl (Kq (l:=M.1.Labels) (c:=Je.cs) Tryz.underlying58 rfl (Qg.rd ck))<|qv rfl (Hw (k:=.i64) (a:=16) (b:=(M.1.Labels.length:Int)) rfl rfl)<|qm rfl<|Qa ?_
 have C:=(((((((((a8.kz E).trans Y6).md j).trans Y8).md d).trans Y9).trans N).trans J).md K)
 refine qj (β:=Int) [26,108,109] (fun O=>[(26,.int .i64 O)]) (fun O wr=>(Qap x1 x3 x9 Q R M O=some r)∧Kz [] cj wr) ?_ ?_
 · refine qs 2 rfl<|qm rfl<|qv rfl (Vt (p:=p1) (q:=4#8) rfl rfl)<|Qa<|Zv hm rfl (fun cl hm=>?_) (fun cl hm=>?_)
   · refine qg 1 rfl<|qm rfl<|Qk ?_
     exact⟨rfl,8,Ql,hm,Xe⟩
   refine Jn ?_
   exact⟨rfl,(Qc (16*(M.1.Labels.length:Int))),Ql,hm,Xe⟩
 clear hm;rintro O dB ⟨hm,f⟩
 have dC:=f.size
 unfold Qap at hm
 refine qs 38 rfl<|qm rfl<|Ra hm rfl (Qt rfl) (fun c5 hm=>?_) (fun c5 hm=>?_)
 · refine qn 7 rfl ?_
   refine qn 7 rfl ?_
   refine qn 7 rfl ?_
   refine qn 7 rfl ?_
   refine qn 7 rfl ?_
   refine qm rfl<|Qa<|Qq ?_
   have cm:=(C.kz f)
   cases hm
   exact⟨_,_,rfl,Qz rfl (Qn rfl),rfl,cm⟩
 refine qm rfl<|qv rfl (Zu (a:=x9.2) (b:=0) rfl rfl)<|qm rfl<|Vc hm rfl (Qt rfl) (fun c6 hm=>?_) (fun c6 hm=>?_)
 · refine qn 7 rfl ?_
   refine qn 7 rfl ?_
   refine qn 7 rfl ?_
   refine qn 7 rfl ?_
   refine qn 4 rfl<|Qa<|Qq ?_
   have cn:=(C.kz f)
   cases hm
   exact⟨_,_,rfl,Qz rfl (Qn rfl),rfl,cn⟩
 refine qm rfl<|qv rfl (Zu (a:=Q.2) (b:=0) rfl rfl)<|qm rfl<|Vc hm rfl (Qt rfl) (fun c7 hm=>?_) (fun c7 hm=>?_)
 · refine qn 7 rfl ?_
   refine qn 7 rfl ?_
   refine qn 7 rfl ?_
   refine qn 7 rfl ?_
   refine Qa<|Qq ?_
   have co:=(C.kz f)
   cases hm
   exact⟨_,_,rfl,Qz rfl (Qn rfl),rfl,co⟩
 refine qm rfl<|qv rfl (Zu (a:=R.2) (b:=0) rfl rfl)<|qm rfl<|Vc hm rfl (Qt rfl) (fun c8 hm=>?_) (fun c8 hm=>?_)
 · refine qn 7 rfl ?_
   refine qn 7 rfl ?_
   refine qn 7 rfl ?_
   refine qn 3 rfl<|Qa<|Qq ?_
   have cp:=(C.kz f)
   cases hm
   exact⟨_,_,rfl,Qz rfl (Qn rfl),rfl,cp⟩
 refine qm rfl<|qv rfl (Zu (a:=M.2) (b:=0) rfl rfl)<|qm rfl<|Vc hm rfl (Qt rfl) (fun c9 hm=>?_) (fun c9 hm=>?_)
 · refine qn 7 rfl ?_
   refine qn 7 rfl ?_
   refine qn 6 rfl<|Qa ?_
   refine Qq ?_
   have cq:=(C.kz f)
   cases hm
   exact⟨_,_,rfl,Qz rfl (Qn rfl),rfl,cq⟩
 refine qm rfl ?_
 have cr:=Gr.trans (Gr.trans an N) J
 have ct:=(((t.gr cr).md K (Qw bu)).kz f)
 refine qv rfl (Kq (l:=Q.1) (c:=Jg) Tryz.underlying51 rfl (Qg.rd ct))<|qv rfl (Qh Uv rfl) ?_
 have ao:=((((((((((a7.kz E).gr Y6).md j).gr Y8).md d).gr Y9).gr N).gr J).md K).kz f)
 refine qv rfl (Qi (v:=.int .i64 x3.1.Header) Qm rfl ao rfl)<|qv rfl (Tt (a:=(Q.1.length:Int)) (b:=x3.1.Header) rfl rfl)<|qm rfl<|Vc hm rfl (Qt rfl) (fun cu hm=>?_) (fun cu hm=>?_)
 · refine qn 7 rfl ?_
   refine qn 6 rfl<|Qa ?_
   refine Qq ?_
   have cv:=(C.kz f)
   cases hm
   exact⟨_,_,rfl,Qz rfl (Qn rfl),rfl,cv⟩
 refine qm rfl ?_
 have cw:=Gr.trans N J
 have cx:=(((u.gr cw).md K (Qw bx)).kz f)
 refine qv rfl (Kq (l:=R.1) (c:=Jg) Tryz.underlying51 rfl (Qg.rd cx))<|qv rfl (Qh Uv rfl)<|qv rfl (Qi (v:=.int .i64 x3.1.Header) Qm rfl ao rfl)<|qv rfl (Zu (a:=(R.1.length:Int)) (b:=x3.1.Header) rfl rfl)<|qm rfl<|Vc hm rfl (Qt rfl) (fun cy hm=>?_) (fun cy hm=>?_)
 · refine qn 6 rfl<|Qa ?_
   refine Qq ?_
   have cz:=(C.kz f)
   cases hm
   exact⟨_,_,rfl,Qz rfl (Qn rfl),rfl,cz⟩
 refine qm rfl<|qv rfl (Qh Uw rfl)<|qv rfl (Qi (v:=.int .i64 x3.1.Storage) Qm rfl ao rfl)<|qv rfl (Zu (a:=O) (b:=x3.1.Storage) rfl rfl)<|qn 2 rfl<|Qa ?_
 refine Qq ?_
 have cA:=(C.kz f)
 cases hm
 exact⟨_,_,rfl,Qz rfl (Qn rfl),rfl,cA⟩
end Go.Proofs.YtopkalcefepilaaGreat.Mx
