/- Walks that follow mirrors: Ck. Printed by mx.py. -/
import Derived.Test.YtopkalcefepilaaGreatGz
import Derived.Test.YtopkalcefepilaaGreatZd
set_option linter.unusedVariables false
set_option linter.unusedSimpArgs false
set_option maxRecDepth 100000
set_option maxHeartbeats 2000000
namespace Go.Proofs.YtopkalcefepilaaGreat.Mx
open Go Go.RowKit Go.Sx
theorem Qoh:Wt Tryz.prog 30 0 3 1 []:=Qh8 Tryz.underlying30 (Qe).siz
theorem Qq1:En Tryz.prog 5:=fun _ _=>by kernel_rfl
theorem Qq5:En Tryz.prog 6:=fun _ _=>by kernel_rfl
theorem Qq6:En Tryz.prog 7:=fun _ _=>by kernel_rfl
theorem Qrl {p0 p1 vp1_0 zp1_0 gp1_0 op1_0 Fp1_0 r}(hm:Qb0 p0 p1=some r){w:World}(j:Xx Yx w zp1_0 gp1_0 op1_0 vp1_0 Fp1_0 p1.Choices):
 Calls Tryz.prog 3 [.agg (Xg.cs p0).toArray,.agg (Xk.cs p1 vp1_0).toArray].toArray w fun e w'=>∃ v,e=.returned v∧(v=.bool r∧Gr w w'):=by
 have G:=j.flt
 have Q:=j.lth
 unfold Qb0 at hm
 refine Xj 58 Tryz.func3 rfl rfl rfl<|qs 3 rfl<|qe rfl (Xq (cs:=Xg.cs p0) rfl rfl) ?_
 rintro _ w1 ⟨b1,rfl,bb,Y,G1⟩
 have z3:=G1.size
 have bF:=Y.lt
 refine qe rfl (Xq (cs:=Xk.cs p1 vp1_0) rfl rfl) ?_
 rintro _ w2 ⟨b2,rfl,bc,S,G2⟩
 have z5:=G2.size
 have bG:=S.lt
 refine qm rfl<|Qa<|Qh<|qs 4 rfl<|qv rfl (Qg Vc rfl)<|qv rfl (Qf (v:=vp1_0) Kw rfl S rfl) ?_
 have B7:=((j.gr G1).gr G2)
 refine qv rfl (Hq (l:=p1.Choices) Tryz.underlying27 rfl B7)<|qv rfl (Ky (a:=(p1.Choices.length:Int)) (b:=10) rfl rfl)<|Qa<|Zq hm rfl (fun c1 hm=>?_) (fun c1 hm=>?_)
 · refine qs 1 rfl<|qm rfl<|qb ?_
   have X8:=(((Gr.refl w).trans G1).trans G2)
   cases hm
   exact⟨_,_,rfl,Qr rfl (Ql rfl),rfl,X8⟩
 refine qu<|qs 1 rfl<|qe rfl (Zz (cs:=Xk.cs (Xk.mk [] 0#8) (.slice none 0 0)) Nu rfl) ?_
 rintro _ w3 ⟨b3,rfl,bd,Z,G3⟩
 have z9:=G3.size
 have be:=Z.lt
 refine Qa<|Qh<|qs 4 rfl<|qv rfl (Qg Vc rfl) ?_
 have T:=(S.gr G3)
 refine qv rfl (Qf (v:=vp1_0) Kw rfl T rfl) ?_
 have U:=(B7.gr G3)
 refine qv rfl (Hq (l:=p1.Choices) Tryz.underlying27 rfl U)<|qm rfl<|Qa<|Xc ?_
 have V:=((((Gr.refl w).trans G1).trans G2).trans G3)
 refine Zv (α:=Nat × Int × List Qq × Value × Nat × Nat × List Nat) ([4,6,7]++rg 15 28) (fun⟨n1,a4,a5,vy6,zy6,gy6,Fy6⟩=>[(4,.bool false),(15,.int .i64 a4)]) (fun⟨n1,a4,a5,vy6,zy6,gy6,Fy6⟩ wr=>(Qs (Rk p0 p1) n1 (a4,a5)=some r)∧Xw Yx wr zy6 gy6 32 vy6 Fy6 a5∧Xb (zy6=0∨w3.heap.size≤gy6)∧(∀ x∈Fy6,Pv [] [] w3.heap.size x)∧Bx wr b3 29 (Xk.cs (Xk.mk a5 0#8) vy6)∧Kz [(1,b3)] w3 wr) (fun⟨n1,a4,a5,vy6,zy6,gy6,Fy6⟩=>n1) ⟨Qy,0,[],(.slice none 0 0),0,0,[]⟩ ?_ ?_ ?_
 · exact Qi
 · exact⟨hm,(Qbc Yx _ 0 32),⟨(.inl rfl)⟩,Vo,Z,Kz.refl _ _⟩
 clear hm;rintro⟨n1,a4,a5,vy6,zy6,gy6,Fy6⟩ w4 ⟨hm,f,d,n,s,K4⟩
 have bH:=K4.size
 have z:=f.flt
 have h:=f.lth
 have bf:=s.lt
 have hb:=Zu hm;clear hm;obtain⟨n1,rfl,hm⟩:=hb
 generalize W:Qs (Rk p0 p1) n1=bg at hm
 unfold Rk at hm
 try dsimp only at hm
 refine qs 1 rfl<|qv rfl (Zo (a:=a4) (b:=(p1.Choices.length:Int)) rfl rfl)<|Qa<|Qh<|Zy hm rfl (fun c2 hm=>?_) (fun c2 hm=>?_)
 · refine Zd<|Xh<|Xh<|Zc<|Xa<|qs 4 rfl ?_
   refine qv rfl (Qg Hb rfl) ?_
   have aa:=(T.kz K4)
   refine qv rfl (Qf (v:=bv p1.Best) Zb rfl aa rfl)<|qv rfl (Qg Hb rfl)<|qe rfl (Zs (cs':=Xk.cs (Xk.mk a5 p1.Best) vy6) (Zb).siz rfl rfl rfl s rfl rfl) ?_
   rintro _ bI ⟨ab,t⟩
   have bJ:=t.size
   refine Qa<|Qh<|dw [([])] [] (.leaf [(0,10),(1,10),(3,10),(4,10),(2,0),(5,0),(6,10),(7,10),(8,10),(9,10),(10,0),(11,10),(12,10)]) ?_
   intro aP y bh
   refine Jp ?_
   have ac:=(((((Y.gr G2).gr G3).kz K4).md t).gr y)
   refine dh 0 rfl rfl (fun w hS=>Xm Wx rfl (Bx.kp ac hS) rfl) ?_
   have ad:=(ab.gr y)
   refine dh 0 rfl rfl (fun w hS=>Xm Wy rfl (Bx.kp ad hS) rfl)<|dh 0 rfl rfl (fun w hS=>Xm Wx rfl (Bx.kp ac hS) rfl) ?_
   have ae:=((aa.md t).gr y)
   refine dh 0 rfl rfl (fun w hS=>Xm Wy rfl (Bx.kp ae hS) rfl) ?_
   have af:=((f.md t (Qd (Qu (b:=b3) d)) (Yj (A:=fun x=>1=0∨x≠b3) n Vo Yl (fun x hx=>.inr (by omega)))).gr y)
   obtain⟨aQ,ag,hm⟩:=Qc hm
   refine qz [] rfl (eC Qq1 rfl (Qti ag (Xw.rd af))) ⟨fun _=>Qn,trivial⟩ ?_
   rintro _ bK ⟨rfl,H⟩
   have bL:=H.size
   refine kG H ?_
   have ah:=((((U.kz K4 (Qd (Xs (b:=b3) Q)) (fun x hx=>(Qd (G x hx)))).md t (Qd (Xs (b:=b3) Q)) (fun x hx=>.inr (by have:=G x hx;omega))).gr y).gr H)
   obtain⟨aR,ai,hm⟩:=Qc hm
   refine qz [] rfl (eC Qq5 rfl (Qun ai ah)) ⟨fun _=>Qn,trivial⟩ ?_
   rintro _ bM ⟨rfl,I⟩
   have bN:=I.size
   refine kG I ?_
   have Y1:=Gr.trans H I
   have g:=((Kp.refl ([]) aP).gr Y1)
   refine qh 0 rfl rfl g (fun w hS=>Xv (a:=aQ) (b:=aR) rfl rfl)<|Nh hm 0 rfl rfl g (fun w hS=>Qt rfl) (fun c4 hm=>?_) (fun c4 hm=>?_)
   · refine qx 0 rfl rfl g<|qx 0 rfl rfl g<|qy rfl<|dn 0 rfl rfl g<|dn 0 rfl rfl g<|Qa<|Qp ?_
     have aS:=((((V.kz K4).md t).trans y).trans Y1)
     cases hm
     exact⟨_,_,rfl,Qr rfl (Ql rfl),rfl,aS⟩
   refine qh 0 rfl rfl g (fun w hS=>Xm Wy rfl (Bx.kp ad hS) rfl)<|qh 0 rfl rfl g (fun w hS=>Xm Wy rfl (Bx.kp ae hS) rfl) ?_
   have aT:=(af.gr Y1)
   have aU:=(ah.gr I)
   obtain⟨bO,aj,hm⟩:=Qc hm
   refine qz [] rfl (eC Qq6 rfl (Quq aj (Xw.rd aT) aU)) ⟨fun _=>Qn,trivial⟩ ?_
   rintro _ bP ⟨rfl,J⟩
   have bQ:=J.size
   refine kG J ?_
   have ak:=(g.gr J)
   refine dn 0 rfl rfl ak<|dn 0 rfl rfl ak<|Qa<|Qp ?_
   have aV:=(((((V.kz K4).md t).trans y).trans Y1).trans J)
   cases hm
   exact⟨_,_,rfl,Qr rfl (Ql rfl),rfl,aV⟩
 refine qu<|Qh<|Xc<|qs 2 rfl<|qm rfl ?_
 refine qm rfl<|Qa<|Qh<|qs 8 rfl<|qv rfl (Qg Vc rfl) ?_
 have al:=(T.kz K4)
 refine qv rfl (Qf (v:=vp1_0) Kw rfl al rfl)<|qm rfl ?_
 obtain⟨y7,am,hm⟩:=Qc hm
 have K:=(U.kz K4 (Qd (Xs (b:=b3) Q)) (fun x hx=>(Qd (G x hx))))
 refine qv rfl (Vu (i:=a4) Tryz.underlying27 (Zf).siz rfl K rfl am)<|qv rfl (Qg Ht rfl) ?_
 obtain⟨bi,an,bj,bk,bm,aW,ao,ap,bo⟩:=Hk K am
 have bp:=ap.lth
 refine qv rfl (Zt (c:=(fun p=>Qq.cs p.1 p.2)) (q:=7) (u:=an) Zp rfl aW ao (by first|rfl|omega) rfl)<|qv rfl (Vm (l:=y7.Witness) (c:=ic) Tryz.underlying30 rfl ap)<|qv rfl (Ky (a:=(y7.Witness.length:Int)) (b:=100) rfl rfl)<|Qa<|Zq hm rfl (fun c3 hm=>?_) (fun c3 hm=>?_)
 · refine qs 1 rfl<|qm rfl<|qb<|Zk ?_
   refine Xp<|Xp<|Zk<|Xp ?_
   have aX:=(V.kz K4)
   cases hm
   exact⟨_,_,rfl,Qr rfl (Ql rfl),rfl,aX⟩
 refine qu<|qs 7 rfl<|qv rfl (Qg Vc rfl)<|qv rfl (Qf (v:=vp1_0) Kw rfl al rfl)<|qm rfl ?_
 obtain⟨y8,aq,hm⟩:=Qc hm
 refine qv rfl (Vu (i:=a4) Tryz.underlying27 (Zf).siz rfl K rfl aq) ?_
 obtain⟨bq,ar,au,av,br,aY,aw,ax,ay⟩:=Hk K aq
 have bs:=ax.lth
 refine qv rfl (Hp (c:=(fun p=>Qq.cs p.1 p.2)) Zf rfl aY aw (by first|rfl|omega))<|qe rfl (Zz (cs:=Qq.cs (Qq.mk 0#8 false 0 0 0 0 0 []) (.slice none 0 0)) Pf rfl) ?_
 rintro _ w5 ⟨b5,rfl,bu,az,G5⟩
 have bR:=G5.size
 have bw:=az.lt
 have aA:=(ax.gr G5)
 refine qe rfl (Jh Zf rfl rfl (Qq.cs_ones _ _ (Rd.oneB aA)) az rfl rfl) ?_
 rintro _ w6 ⟨aZ,M6⟩
 have bS:=M6.size
 refine qd 6 rfl<|qe rfl (Kt ([]:List Int) ic Qoh rfl rfl (Vj rfl) rfl rfl rfl) ?_
 rintro bT w7 ⟨L,bx,aB,G7⟩
 have bU:=G7.size
 have aC:=aB.lth
 refine qv rfl (Qg Ht rfl) ?_
 have aD:=(aZ.gr G7)
 refine qv rfl (Qf (v:=ar) Zp rfl aD rfl) ?_
 have a0:=((aA.md M6 (Qd ((Qat ay (fun x hx=>.inr (by have:=G x hx;omega))):au=0∨av≠b5))).gr G7)
 obtain⟨l9,a1,hm⟩:=Qc hm
 refine qe rfl (Ha (l:=([]:List Int)) (m:=y8.Witness) (c:=ic) Fj rfl rfl aB a0 a1 (by decide)) ?_
 rintro aE w8 ⟨aF,aG,aH,B,bV,M⟩
 have bW:=B.size
 refine qv rfl (Qg Ht rfl) ?_
 have a2:=(aD.ka B (Qd ((.inr Qn):1=0∨L≠b5)))
 refine qe rfl (Zs (cs':=Qq.cs (Qq.mk y8.Kind y8.Fits y8.Items y8.Points y8.Header y8.Storage y8.Cost l9) aE) (Zp).siz rfl rfl (Qk.oneB aH) a2 rfl rfl) ?_
 rintro _ w9 ⟨a3,M9⟩
 have bX:=M9.size
 refine Qa<|qg 7 rfl<|qv rfl (Qg Vc rfl) ?_
 have aI:=(((((s.gr G5).md M6).gr G7).ka B (Qd ((.inr Qn):1=0∨L≠b3))).md M9)
 refine qv rfl (Qf (v:=vy6) Kw rfl aI rfl)<|qv rfl (Xm Zf rfl a3 rfl) ?_
 have aJ:=(aH.md M9 (Hz M (.inr Qn)))
 refine qe rfl (Qeg (R:=Yx) (F:=(zf aF aG)) [((Qq.mk y8.Kind y8.Fits y8.Items y8.Points y8.Header y8.Storage y8.Cost l9),aE)] Qdo rfl rfl rfl rfl rfl (by simp only[List.mem_cons,List.not_mem_nil,or_false];rintro p rfl;exact⟨_,_,_,(Qk.rd aJ),(Qes _ _)⟩) (Qgw aJ.lth.o)) ?_
 rintro bz bY ⟨bA,a6,C,N⟩
 have bZ:=N.size
 have bB:=C.flt
 have bC:=C.lth
 have a7:=((((((f.gr G5).md M6 (Qd (Xs (b:=b5) h)) (fun x hx=>.inr (by have:=z x hx;omega))).gr G7).ka B (Qd ((Ki (.inr (Qd h.o))):zy6=0∨1=0∨gy6≠L)) (fun x hx=>.inr (by have:=z x hx;have:=aC.o;omega))).md M9 (Qd (Xs (b:=b5) h)) (fun x hx=>.inr (by have:=z x hx;omega))).gr N)
 obtain⟨aK,aL,hm⟩:=Qc hm
 refine qe rfl (Qef (l:=a5) (m:=[(Qq.mk y8.Kind y8.Fits y8.Items y8.Points y8.Header y8.Storage y8.Cost l9)]) Qdm rfl rfl a7 (Xw.rd C) aL (by decide) (Yz (A:=fun x=>zy6=0∨x≠gy6) (Kc (A:=(fun x=>zy6=0∨x≠gy6)) M (.inr (Qd h.o)) (fun x hx=>(Qd h.o))))) ?_
 rintro O b0 ⟨aM,aN,D,E,bD,P⟩
 have b4:=E.size
 have bE:=D.flt
 refine qv rfl (Qg Vc rfl) ?_
 have a8:=((aI.gr N).ka E (Qd (Qu (b:=b3) d)))
 refine qe rfl (Zs (cs':=Xk.cs (Xk.mk aK 0#8) O) (Kw).siz rfl rfl (Xw.oneB D) a8 rfl rfl) ?_
 rintro _ a9 ⟨aO,X⟩
 have b6:=X.size
 refine Qj<|Xi<|Xa<|qg 2 rfl<|qv rfl (Xn (k:=.i64) (a:=a4) (b:=1) rfl rfl)<|qm rfl<|Qj ?_
 have K_46:Kz [(1,b3)] w3 a9:=((((((((K4.gr G5).md M6).gr G7).ka B (Qd ((.inr Qn):1=0∨w3.heap.size≤L))).md M9).gr N).ka E (Qd (Xe (A:=(fun x=>w3.heap.size≤x)) d))).md X)
 have ba:=(D.md X (Qd (Hz (b:=b3) P (Qu d))) (Hl (Yj (A:=fun x=>1=0∨x≠b3) n Vo Yl (fun x hx=>.inr (by omega))) (Yz (A:=fun x=>1=0∨x≠b3) (Nc (Kc (A:=(fun x=>x≠b3)) M (.inr Qn))))))
 subst W
 exact⟨rfl,⟨n1,Qb (a4+1),aK,O,aM,aN,(Fy6++(zf aF aG))⟩,Qi,⟨hm,ba,⟨(Kc (A:=(fun x=>w3.heap.size≤x)) P (Xe (A:=(fun x=>w3.heap.size≤x)) d))⟩,(Hl (Yj (A:=(Pv [] [] w3.heap.size)) n Vo Yl (fun x hx=>.inr (.inr (by omega)))) (Yz (A:=(Pv [] [] w3.heap.size)) (Ik (Kc (A:=(fun x=>Mz [] x∨w3.heap.size≤x)) M (.inr Qn))))),aO,K_46⟩,Nat.lt_succ_self _⟩
end Go.Proofs.YtopkalcefepilaaGreat.Mx
