/- Walks that follow mirrors: Hc. Printed by mx.py. -/
import Derived.Test.YtopkalcefepilaaGreatHb
import Derived.Test.YtopkalcefepilaaGreatZd
set_option linter.unusedVariables false
set_option linter.unusedSimpArgs false
set_option maxRecDepth 100000
set_option maxHeartbeats 2000000
namespace Go.Proofs.YtopkalcefepilaaGreat.Mx
open Go Go.RowKit Go.Sx
theorem Qbt:ZV Tryz.prog 62 (.agg [.int .i64 0,.slice none 0 0,.int .u64 0,.int .u64 0].toArray):=fun _=>by kernel_rfl
theorem Qgk:Ku Tryz.prog 58:=fun _=>⟨by kernel_rfl,by kernel_rfl⟩
theorem Sh:BS Tryz.prog 62 (fun i=>[(0,1),(1,1),(2,2)][i]?) [.int .i64 0,.slice none 0 0,.int .u64 0,.int .u64 0]:=Dc Tryz.underlying62 Qbt ⟨rfl,(Qm).siz,rfl,(Qgk).siz,rfl,(Qbz).siz,trivial⟩
theorem Yi:Ky Tryz.prog 62 4:=fun _=>⟨by kernel_rfl,by kernel_rfl⟩
theorem Qnr:ZV Tryz.prog 176 (.agg [.int .i64 0,.int .i64 0,.int .u8 0,.int .u8 0,.int .u8 0,.int .u8 0,.int .u8 0,.int .u8 0,.int .u8 0,.int .u8 0,.int .u8 0,.int .u8 0,.int .u8 0,.int .u8 0,.int .u8 0,.int .u8 0,.int .u8 0,.int .u8 0].toArray):=fun _=>by kernel_rfl
theorem Qwm:BS Tryz.prog 176 (fun i=>[(0,1),(1,1),(2,16)][i]?) [.int .i64 0,.int .i64 0,.int .u8 0,.int .u8 0,.int .u8 0,.int .u8 0,.int .u8 0,.int .u8 0,.int .u8 0,.int .u8 0,.int .u8 0,.int .u8 0,.int .u8 0,.int .u8 0,.int .u8 0,.int .u8 0,.int .u8 0,.int .u8 0]:=Dc Tryz.underlying176 Qnr ⟨rfl,(Qm).siz,rfl,(Qm).siz,rfl,(Xk).siz,trivial⟩
theorem Qiz:Ky Tryz.prog 176 18:=fun _=>⟨by kernel_rfl,by kernel_rfl⟩
theorem Xal:FA Tryz.prog 176 0 0:=fun _ _ _=>by kernel_rfl
theorem Qqo:FA Tryz.prog 176 2 2:=fun _ _ _=>by kernel_rfl
theorem Qkh:FA Tryz.prog 62 1 1:=fun _ _ _=>by kernel_rfl
theorem Qwv:Du Tryz.prog 58 1 176 18 [.int .i64 0,.int .i64 0,.int .u8 0,.int .u8 0,.int .u8 0,.int .u8 0,.int .u8 0,.int .u8 0,.int .u8 0,.int .u8 0,.int .u8 0,.int .u8 0,.int .u8 0,.int .u8 0,.int .u8 0,.int .u8 0,.int .u8 0,.int .u8 0]:=Nf Tryz.underlying58 (Qiz).siz Qnr rfl rfl (by kernel_rfl)
theorem Qvz:Dt Tryz.prog 58 176 18 32:=Rs Tryz.underlying58 rfl (by kernel_rfl)
theorem Qxo {p0 p1 p2 r}(hm:Qce p0 p1 p2=some r){w:World}:
 Calls Tryz.prog 60 [kv p0,.agg (Qj.cs p1).toArray,.int .i64 p2].toArray w fun e w'=>∃ v,e=.returned v∧(∃ ur0_1 zr0_1 gr0_1,v=.tuple [.agg (Xp.cs r.1 ur0_1).toArray,.int .i64 r.2].toArray∧Qg w' zr0_1 gr0_1 176 18 ur0_1 (r.1.Labels.map Je.cs)∧Xd (zr0_1=0∨w.heap.size≤gr0_1)∧Gr w w'):=by
 unfold Qce at hm
 refine Xi 61 Tryz.func60 rfl rfl rfl<|qs 4 rfl<|qe rfl (Xo (cs:=kb p0) rfl rfl) ?_
 rintro _ w1 ⟨b1,rfl,bp,an,G1⟩
 have z1:=G1.size
 have bK:=an.lt
 refine qe rfl (Xo (cs:=Qj.cs p1) rfl rfl) ?_
 rintro _ w2 ⟨b2,rfl,bq,ao,G2⟩
 have z3:=G2.size
 have bL:=ao.lt
 refine qe rfl (Xg (cs:=Xp.cs (Xp.mk 0 [] (Xq.mk 0#64 0#64)) (.slice none 0 0)) Qbt rfl) ?_
 rintro _ w3 ⟨b3,rfl,br,M,G3⟩
 have z5:=G3.size
 have bM:=M.lt
 refine qm rfl<|qd 8 rfl ?_
 have B7:=(ao.gr G3)
 refine qv rfl (Xa Zq rfl B7 rfl) ?_
 obtain⟨x1,aQ,hm⟩:=Qd hm
 refine qe rfl (eC Qf9 rfl (Qes aQ (Qg.rd (Zi _ 0 137 2)))) ?_
 rintro _ w4 ⟨rfl,G4⟩
 have z8:=G4.size
 refine qn 3 rfl<|qe rfl (Xg (cs:=Xj.cs (Xj.mk 0#8 0 0)) Sc rfl) ?_
 rintro _ w5 ⟨b5,rfl,bs,ap,G5⟩
 have z9:=G5.size
 have bu:=ap.lt
 refine qe rfl (Xf Ki rfl rfl rfl ap rfl rfl) ?_
 rintro _ w6 ⟨aq,M6⟩
 have bN:=M6.size
 refine qm rfl<|Qa<|Qe<|qs 2 rfl<|qm rfl<|qv rfl (Kg (a:=x1.2) (b:=0) rfl rfl) ?_
 refine Qa<|Zv hm rfl (fun c1 hm=>?_) (fun c1 hm=>?_)
 · refine qs 4 rfl<|qv rfl (Zk (cs:=Xp.cs (Xp.mk 0 [] (Xq.mk 0#64 0#64)) (.slice none 0 0)) Sh rfl rfl)<|qm rfl ?_
   have Y1:=Gr.trans G4 G5
   have aR:=((M.gr Y1).md M6)
   refine qe rfl (Xf Yi rfl rfl (Xp.cs_ones _ _ rfl) aR rfl rfl) ?_
   rintro _ w7 ⟨aS,M7⟩
   have bO:=M7.size
   refine qm rfl<|qb ?_
   have Y2:=Gr.trans (Gr.trans (Gr.trans G1 G2) G3) Y1
   have aT:=((((Gr.refl w).trans Y2).md M6).md M7)
   cases hm
   exact⟨_,_,rfl,Za rfl (Zf Yi rfl aS rfl) (Qn rfl),(.slice none 0 0),0,0,rfl,(Zi _ 0 176 18),⟨.inl rfl⟩,aT⟩
 refine qu<|Qe<|qs 4 rfl<|qv rfl (Xa Ki rfl aq rfl)<|qm rfl ?_
 obtain⟨x2,aU,hm⟩:=Qd hm
 refine qe rfl (eC Qpj rfl (Qp6 aU)) ?_
 rintro _ w8 ⟨rfl,G8⟩
 have bP:=G8.size
 refine qv rfl (Kd rfl)<|Qa<|Jo hm rfl (fun c2 hm=>?_) (fun c2 hm=>?_)
 · refine qs 3 rfl<|qv rfl (Zk (cs:=Xp.cs (Xp.mk 0 [] (Xq.mk 0#64 0#64)) (.slice none 0 0)) Sh rfl rfl) ?_
   have Y3:=Gr.trans G4 G5
   have aV:=(((M.gr Y3).md M6).gr G8)
   refine qe rfl (Xf Yi rfl rfl (Xp.cs_ones _ _ rfl) aV rfl rfl) ?_
   rintro _ w9 ⟨aW,M9⟩
   have bQ:=M9.size
   refine qm rfl<|qb ?_
   have Y4:=Gr.trans (Gr.trans (Gr.trans G1 G2) G3) Y3
   have aX:=(((((Gr.refl w).trans Y4).md M6).trans G8).md M9)
   cases hm
   exact⟨_,_,rfl,Za rfl (Zf Yi rfl aW rfl) (Qn rfl),(.slice none 0 0),0,0,rfl,(Zi _ 0 176 18),⟨.inl rfl⟩,aX⟩
 refine qu<|qs 4 rfl<|qm rfl<|qv rfl (Zk (cs:=Xp.cs (Xp.mk p2 [] (Xq.mk 0#64 0#64)) (.slice none 0 0)) Sh rfl rfl)<|qe rfl (Xg (cs:=Xp.cs (Xp.mk 0 [] (Xq.mk 0#64 0#64)) (.slice none 0 0)) Qbt rfl) ?_
 rintro _ bR ⟨d,rfl,aY,S,ar⟩
 have bS:=ar.size
 have bw:=S.lt
 refine qe rfl (Xf Yi rfl rfl (Xp.cs_ones _ _ rfl) S rfl rfl) ?_
 rintro _ bT ⟨au,C⟩
 have bU:=C.size
 refine Qa<|Qe<|qs 3 rfl ?_
 have Y5:=Gr.trans G8 ar
 have av:=((aq.gr Y5).md C)
 refine qv rfl (Xa Ki rfl av rfl)<|qm rfl ?_
 obtain⟨x3,aZ,hm⟩:=Qd hm
 refine qe rfl (eC Qq1 rfl (Qp4 aZ)) ?_
 rintro _ F ⟨aj,ak,rfl,f,al,g,am,q⟩
 have bV:=q.size
 have bx:=f.lt
 have bz:=g.lt
 refine Qa<|Xn ?_
 obtain⟨l4,a0,hm⟩:=Qd hm
 have Y6:=Gr.trans (Gr.trans (Gr.trans (Gr.trans G1 G2) G3) G4) G5
 have aw:=((((((Gr.refl w).trans Y6).md M6).trans Y5).md C).trans q)
 have Y7:=Gr.trans (Gr.trans (Gr.trans G2 G3) G4) G5
 have ax:=(((((an.gr Y7).md M6).gr Y5).md C).gr q)
 have Y8:=Gr.trans G4 G5
 have bW:=(((((B7.gr Y8).md M6).gr Y5).md C).gr q)
 have a1:=(((((M.gr Y8).md M6).gr Y5).md C).gr q)
 have a2:=(av.gr q)
 have a3:=(au.gr q)
 refine Rl (gf:=97) rfl Qq9 (Qp3 x3.1 x3.2 _ _ _ a0 _ f g) (by intro x hx;obtain⟨a,_,rfl⟩:=List.mem_map.1 hx;rfl) rfl _ (fun _ _ _ _=>False) ([d]++zf 0 0) (Sa (α:=List Je × Value × Nat × Nat) (fun⟨a7,vy8,zy8,gy8⟩ rk=>Js (Ol p0 x1) (Ok p2) (List.drop rk l4) a7=some r) (fun⟨a7,vy8,zy8,gy8⟩=>([d]++zf zy8 gy8)) (fun⟨a7,vy8,zy8,gy8⟩ W=>Qg W zy8 gy8 176 18 vy8 (a7.map Je.cs)∧Xd (zy8=0∨F.heap.size≤gy8)∧Bx W d 62 (Xp.cs (Xp.mk p2 a7 (Xq.mk 0#64 0#64)) vy8)∧True) (by rintro⟨a7,vy8,zy8,gy8⟩ W ⟨F0,F1,F2,_⟩ b hb;have q0:=F0.lt;have q2:=F2.lt;replace hb:b∈([d]++zf zy8 gy8):=hb;simp only[List.mem_cons,List.mem_append,Xt,List.not_mem_nil,or_false,false_or,not_or,ne_eq,List.nil_append,List.cons_append,true_and,and_true,false_and,and_false,not_true_eq_false,not_false_eq_true,or_true,true_or] at hb;omega) (by rintro⟨a7,vy8,zy8,gy8⟩ W W' ⟨F0,F1,F2,_⟩ E hs;replace hs:∀ b∈([d]++zf zy8 gy8),W'.heap[b]? = W.heap[b]? := hs;exact⟨Qg.hs F0 hs (fun hz=>by simp[Xt,hz]),F1,(hs _ (by simp)).trans F2,trivial⟩)) (fun _=>Al) (by intro b hb;simp only[List.mem_cons,List.mem_append,Xt,List.not_mem_nil,or_false,false_or,not_or,ne_eq,List.nil_append,List.cons_append,true_and,and_true,false_and,and_false,not_true_eq_false,not_false_eq_true,or_true,true_or] at hb ⊢;omega) ⟨⟨[],(.slice none 0 0),0,0⟩,hm,rfl,(Zi _ 0 176 18),⟨(.inl rfl)⟩,a3,trivial⟩ ?_ ?_ ?_
 · rintro l rk x fp a4 hl hx _ ay hF hln Jc
   clear hm
   obtain⟨⟨e9,n⟩,hxe,rfl⟩:=map_some hx
   have s:Kz [(1,d),(0,0)] F a4:=Ta ay (by intro k hk;simp only[Zh,and_true,List.mem_cons,List.mem_append,Xt,List.not_mem_nil,or_false,false_or,not_or,ne_eq,List.nil_append,List.cons_append,true_and,and_true,false_and,and_false,not_true_eq_false,not_false_eq_true,or_true,true_or] at hk ⊢;omega)
   have bX:=ay.size
   refine qs 1 rfl<|qm rfl<|Qa<|qg 1 rfl<|qm rfl<|Qk ?_
   refine⟨rfl,(Gr.refl _),?_⟩
   rintro N G ⟨⟨a7,vy8,zy8,gy8⟩,hm,rfl,t,i,u,-⟩
   have bY:=G.size
   have T:=t.lth
   have bA:=u.lt
   replace hm:=Br hm hxe
   generalize hnx1:Js (Ol p0 x1) (Ok p2) (List.drop (rk+1) l4)=a5 at hm
   unfold Ol at hm
   try dsimp only at hm
   refine Xn<|qs 5 rfl<|qn 2 rfl<|qv rfl (Zk (cs:=Je.cs (Je.mk e9 n k0)) Qwm rfl (by kernel_rfl))<|qe rfl (Xg (cs:=Je.cs (Je.mk 0 0 k0)) Qnr rfl) ?_
   rintro _ bZ ⟨ac,rfl,a6,U,o⟩
   have b0:=o.size
   have bB:=U.lt
   refine qe rfl (Xf Qiz rfl rfl rfl U rfl rfl) ?_
   rintro _ a8 ⟨H,p⟩
   have b4:=p.size
   refine Qa ?_
   have b6:=((((aw.kz s).md G).trans o).md p)
   refine qj (β:=W2) (rg 38 16) (fun D=>[]) (fun D wr=>(Qcf a7 a5 e9 n D=some r)∧Bx wr ac 176 (Je.cs (Je.mk e9 n D))∧Kz [(1,ac)] a8 wr) ?_ ?_
   · refine qs 2 rfl<|qm rfl<|qv rfl (Zu (a:=n) (b:=0) rfl rfl)<|Qa<|Zv hm rfl (fun c3 hm=>?_) (fun c3 hm=>?_)
     · refine qg 8 rfl ?_
       have a9:=((((a2.kz s).md G).gr o).md p)
       refine qv rfl (Xa Ki rfl a9 rfl) ?_
       have ba:=((((ax.kz s).md G).gr o).md p)
       refine qv rfl (Xa Xk rfl ba rfl)<|qv rfl (Qh Xal rfl)<|qv rfl (Qi (v:=.int .i64 e9) Qm rfl H rfl)<|qv rfl (Zk (cs:=Qx.cs (Qx.mk e9 0)) Qei rfl rfl) ?_
       obtain⟨ad,az,hm⟩:=Qd hm
       refine qe rfl (eC Qpk rfl (Qp2 az)) ?_
       rintro _ b7 ⟨rfl,ae⟩
       have b8:=ae.size
       refine qv rfl (Qh Qqo rfl) ?_
       have bb:=(H.gr ae)
       refine qe rfl (Qab (cs':=Je.cs (Je.mk e9 n ad)) (vs:=kb ad) (Xk).siz rfl rfl rfl rfl rfl bb rfl rfl) ?_
       rintro _ b9 ⟨aA,aB⟩
       have ca:=aB.size
       refine Qk ?_
       exact⟨rfl,ad,Ql,hm,aA,((Kz.gr (Kz.refl _ _) ae).md aB)⟩
     refine qg 8 rfl ?_
     have bc:=((((ax.kz s).md G).gr o).md p)
     refine qv rfl (Xa Xk rfl bc rfl)<|qm rfl ?_
     obtain⟨cb,aC,hm⟩:=Qd hm
     refine qe rfl (eC Qjo rfl (Qje aC)) ?_
     rintro _ cc ⟨rfl,af⟩
     have cd:=af.size
     refine qn 2 rfl ?_
     obtain⟨ag,aD,hm⟩:=Qd hm
     refine qe rfl (eC Qpl rfl (Qoy aD)) ?_
     rintro _ ce ⟨rfl,ah⟩
     have cf:=ah.size
     refine qv rfl (Qh Qqo rfl) ?_
     have bd:=((H.gr af).gr ah)
     refine qe rfl (Qab (cs':=Je.cs (Je.mk e9 n ag)) (vs:=kb ag) (Xk).siz rfl rfl rfl rfl rfl bd rfl rfl) ?_
     rintro _ cg ⟨aE,aF⟩
     have ch:=aF.size
     refine Qk ?_
     exact⟨rfl,ag,Ql,hm,aE,(((Kz.gr (Kz.refl _ _) af).gr ah).md aF)⟩
   clear hm;rintro D ci ⟨hm,y,O⟩
   have cj:=O.size
   have bC:=y.lt
   unfold Qcf at hm
   refine qg 7 rfl<|qv rfl (Qh Qkh rfl) ?_
   have aG:=(((u.gr o).md p).kz O)
   refine qv rfl (Qi (v:=vy8) Qgk rfl aG rfl)<|qv rfl (Xa Qiz rfl y rfl)<|qe rfl (Ha [(Je.mk e9 n D)] Je.cs Qwv rfl rfl (Pc rfl) rfl rfl rfl) ?_
   rintro bD ck ⟨bE,bf,V,P⟩
   have cl:=P.size
   have bF:=V.lth
   have bg:=((((t.gr o).md p (Qw T)).kz O (Qb (Qw (b:=ac) T))).gr P)
   obtain⟨aH,aI,hm⟩:=Qd hm
   refine qe rfl (Nk (l:=a7) (m:=[(Je.mk e9 n D)]) (c:=Je.cs) Qvz rfl rfl bg (Qg.rd V) aI (by decide)) ?_
   rintro X cm ⟨Y,Z,aa,I,bG,J⟩
   have cn:=I.size
   refine qv rfl (Qh Qkh rfl) ?_
   have bh:=((aG.gr P).ka I (Qb (Qr (b:=d) i)))
   refine qe rfl (Zp (cs':=Xp.cs (Xp.mk p2 aH (Xq.mk 0#64 0#64)) X) (Qgk).siz rfl rfl (Qg.oneB aa) bh rfl rfl) ?_
   rintro _ aJ ⟨aK,ai⟩
   have co:=ai.size
   refine Qk<|Xh ?_
   have bi:=(aa.md ai (Nt J (Qr i)))
   have K_49:Kz [(1,d),(zy8,gy8)] N aJ:=((((((Kz.gr (Kz.refl _ _) o).md p).kz O).gr P).ka I (Qb (Qf:zy8=0∨(gy8=gy8∧zy8≠0)∨N.heap.size≤gy8))).md ai)
   have Kq49:Kp ([d]++zf zy8 gy8) N aJ:=Lo K_49 (by intro k hk;simp only[Zh,and_true,List.mem_cons,List.mem_append,Xt,List.not_mem_nil,or_false,false_or,not_or,ne_eq,List.nil_append,List.cons_append,true_and,and_true,false_and,and_false,not_true_eq_false,not_false_eq_true,or_true,true_or] at hk ⊢;omega)
   subst hnx1
   exact⟨Kq49,([d]++zf Y Z),(by intro c hc;have:=(Tq (A:=(fun x=>(x=gy8∧zy8≠0)∨N.heap.size≤x)) J Qf);simp only[List.mem_cons,List.mem_append,Xt,List.not_mem_nil,or_false,false_or,not_or,ne_eq,List.nil_append,List.cons_append,true_and,and_true,false_and,and_false,not_true_eq_false,not_false_eq_true,or_true,true_or] at hc ⊢;omega),⟨⟨aH,X,Y,Z⟩,hm,rfl,bi,⟨(Tq (A:=(fun x=>F.heap.size≤x)) J (Xm (A:=(fun x=>F.heap.size≤x)) i))⟩,aK,trivial⟩⟩
 · clear hm;rintro K fp aL bj L aM ⟨⟨a7,vy8,zy8,gy8⟩,hm,rfl,j,z,B,-⟩ aN
   replace hm:=Bs hm
   have ab:Kz [(1,d),(0,0)] F aL:=Ta aN (by intro k hk;simp only[Zh,and_true,List.mem_cons,List.mem_append,Xt,List.not_mem_nil,or_false,false_or,not_or,ne_eq,List.nil_append,List.cons_append,true_and,and_true,false_and,and_false,not_true_eq_false,not_false_eq_true,or_true,true_or] at hk ⊢;omega)
   have cp:=aN.size
   have bH:=Df.lt (w:=aL) L
   simp only[List.mem_cons,List.mem_append,Xt,List.not_mem_nil,or_false,false_or,not_or,ne_eq,List.nil_append,List.cons_append,true_and,and_true,false_and,and_false,not_true_eq_false,not_false_eq_true,or_true,true_or,not_and] at aM
   have bI:=j.lth
   have bJ:=B.lt
   unfold Ok at hm
   try dsimp only at hm
   refine Xh<|Xl<|qs 3 rfl<|qv rfl (Xa Yi rfl B rfl) ?_
   have bk:=(a1.kz ab)
   refine qe rfl (Xf Yi rfl rfl (Xp.cs_ones _ _ (Qg.oneB j)) bk rfl rfl) ?_
   rintro _ aO ⟨aP,Q⟩
   have cq:=Q.size
   refine qm rfl<|Qa<|Qq ?_
   have DL69:=(Df.md L Q)
   have R:=Md.put (w:=aO) K (.deferred none)
   have zL69:=R.size
   have bl:=(aP.md R)
   have bm:=((j.md Q (Qr z)).md R)
   have bo:Gr w (aO.putObj K (.deferred none)):=(((aw.kz ab).md Q).md R)
   cases hm
   refine⟨_,_,⟨K,rfl,DL69,rfl⟩,Za rfl (Zf Yi rfl bl rfl) (Qn rfl),?_⟩
   exact⟨vy8,zy8,gy8,rfl,bm,⟨(Xm (A:=(fun x=>w.heap.size≤x)) z)⟩,bo⟩
 rintro _ _ _ _ _ _ _ _ _ h _
 exact h.elim
theorem Xee {p0 p1 p2 r}(hm:Fz p0 p1 p2=some r){w:World}:
 Calls Tryz.prog 63 [kv p0,.agg (Qj.cs p1).toArray,.int .i64 p2].toArray w fun e w'=>∃ v,e=.returned v∧(∃ ur0_1 zr0_1 gr0_1,v=.tuple [.agg (Xp.cs r.1 ur0_1).toArray,.int .i64 r.2].toArray∧Qg w' zr0_1 gr0_1 176 18 ur0_1 (r.1.Labels.map Je.cs)∧Xd (zr0_1=0∨w.heap.size≤gr0_1)∧Gr w w'):=by
 unfold Fz at hm
 refine Xi 38 Tryz.func63 rfl rfl rfl<|qs 4 rfl<|qe rfl (Xo (cs:=kb p0) rfl rfl) ?_
 rintro _ w1 ⟨b1,rfl,H,i,G1⟩
 have z1:=G1.size
 have L:=i.lt
 refine qe rfl (Xo (cs:=Qj.cs p1) rfl rfl) ?_
 rintro _ w2 ⟨b2,rfl,I,j,G2⟩
 have z3:=G2.size
 have M:=j.lt
 refine qe rfl (Xg (cs:=Xp.cs (Xp.mk 0 [] (Xq.mk 0#64 0#64)) (.slice none 0 0)) Qbt rfl) ?_
 rintro _ w3 ⟨b3,rfl,J,f,G3⟩
 have z5:=G3.size
 have N:=f.lt
 refine qm rfl<|Qa<|Qe<|qs 3 rfl ?_
 have B7:=(j.gr G3)
 refine qv rfl (Xa Zq rfl B7 rfl) ?_
 obtain⟨x1,s,hm⟩:=Qd hm
 refine qe rfl (eC Qjy rfl (Qm0 s)) ?_
 rintro _ w4 ⟨rfl,G4⟩
 have z8:=G4.size
 refine qv rfl (Kd rfl)<|Qa<|Jo hm rfl (fun c1 hm=>?_) (fun c1 hm=>?_)
 · refine qs 3 rfl<|qv rfl (Zk (cs:=Xp.cs (Xp.mk 0 [] (Xq.mk 0#64 0#64)) (.slice none 0 0)) Sh rfl rfl) ?_
   have B9:=(f.gr G4)
   refine qe rfl (Xf Yi rfl rfl (Xp.cs_ones _ _ rfl) B9 rfl rfl) ?_
   rintro _ w5 ⟨t,M5⟩
   have O:=M5.size
   refine qm rfl<|qb ?_
   have Y1:=Gr.trans (Gr.trans (Gr.trans G1 G2) G3) G4
   have u:=(((Gr.refl w).trans Y1).md M5)
   cases hm
   exact⟨_,_,rfl,Za rfl (Zf Yi rfl t rfl) (Qn rfl),(.slice none 0 0),0,0,rfl,(Zi _ 0 176 18),⟨.inl rfl⟩,u⟩
 refine qu<|Qe ?_
 have Y2:=Gr.trans (Gr.trans (Gr.trans G1 G2) G3) G4
 have k:=((Gr.refl w).trans Y2)
 refine qj (β:=Bool) (rg 13 9) (fun a2=>[(21,.bool a2)]) (fun a2 wr=>(Ez p0 p1 p2 a2=some r)∧Kz [] w4 wr) ?_ ?_
 · refine qg 9 rfl<|qm rfl<|qv rfl (Jv (a:=p2) (b:=0) rfl rfl)<|Ji hm rfl (Qt rfl) (fun c3 hm=>?_) (fun c3 hm=>?_)
   · refine qn 6 rfl<|Qk ?_
     exact⟨rfl,true,Ql,hm,Xe⟩
   refine qm rfl<|qv rfl (Qh Wo rfl) ?_
   have x:=(B7.gr G4)
   refine qv rfl (Qi (v:=.int .i64 p1.Depth) Qm rfl x rfl) ?_
   obtain⟨nn5,hnn5,hm⟩:=Qd hm
   refine qv rfl (Tf (a:=1) (b:=p1.Depth) rfl rfl hnn5)<|qv rfl (Wk (a:=p2) (b:=Xw 1 nn5) rfl rfl)<|qm rfl<|Qk ?_
   exact⟨rfl,(decide (Xw 1 nn5≤p2)),Ql,hm,Xe⟩
 clear hm;rintro a2 w6 ⟨hm,K6⟩
 have P:=K6.size
 unfold Ez at hm
 refine Jo hm rfl (fun c2 hm=>?_) (fun c2 hm=>?_)
 · refine qs 3 rfl<|qv rfl (Zk (cs:=Xp.cs (Xp.mk 0 [] (Xq.mk 0#64 0#64)) (.slice none 0 0)) Sh rfl rfl) ?_
   have y:=((f.gr G4).kz K6)
   refine qe rfl (Xf Yi rfl rfl (Xp.cs_ones _ _ rfl) y rfl rfl) ?_
   rintro _ w7 ⟨z,M7⟩
   have R:=M7.size
   refine qm rfl<|qb ?_
   have A:=((k.kz K6).md M7)
   cases hm
   exact⟨_,_,rfl,Za rfl (Zf Yi rfl z rfl) (Qn rfl),(.slice none 0 0),0,0,rfl,(Zi _ 0 176 18),⟨.inl rfl⟩,A⟩
 refine qu<|qs 4 rfl<|qm rfl<|qv rfl (Ww Wu rfl)<|qv rfl (Qe6 (a:=wd p2) (b:=1#64) rfl rfl) ?_
 refine qm rfl<|Qa<|Qe<|dw [([b3])] [] (.leaf [(0,10),(1,10),(2,10),(3,10),(5,10),(6,10),(7,10),(8,10),(4,0),(9,0),(10,10),(11,10),(12,0),(13,10)]) ?_
 intro w8 G8 S
 refine Zz<|dm 0 rfl rfl<|dm 0 rfl rfl ?_
 have Y3:=Gr.trans (Gr.trans G2 G3) G4
 have B:=(((i.gr Y3).kz K6).gr G8)
 refine dh 0 rfl rfl (fun w hS=>Xa Xk rfl (Bx.kp B hS) rfl) ?_
 have l:=(((B7.gr G4).kz K6).gr G8)
 refine dh 0 rfl rfl (fun w hS=>Xa Zq rfl (Bx.kp l hS) rfl)<|dh 0 rfl rfl (fun w hS=>Qh Fa rfl)<|dh 0 rfl rfl (fun w hS=>Qh Bn rfl)<|dh 0 rfl rfl (fun w hS=>Qi (v:=wv p1.Group.Q) Zw rfl (Bx.kp l hS) rfl)<|dm 0 rfl rfl ?_
 obtain⟨x3,C,hm⟩:=Qd hm
 refine qz [] rfl (eC Qa3 rfl (Qb8 C)) ⟨fun _=>Qf,trivial⟩ ?_
 rintro m w9 ⟨_,n,o,rfl,c,p,G9⟩
 have T:=G9.size
 have K:=c.lth
 refine kG G9 ?_
 obtain⟨x4,D,hm⟩:=Qd hm
 refine qz [] rfl (eC Qpm rfl (Qt0 D (Qg.rd c))) ⟨fun _=>Qf,trivial⟩ ?_
 rintro _ U ⟨rfl,d⟩
 have V:=d.size
 refine kG d ?_
 have h:=(((Kp.refl ([b3]) w8).gr G9).gr d)
 refine qh 0 rfl rfl h (fun w hS=>Zk (cs:=Xq.cs (Xq.mk ((wd p2)+1#64) x4)) Qj7 rfl rfl)<|qh 0 rfl rfl h (fun w hS=>Zk (cs:=Xp.cs (Xp.mk p2 [] (Xq.mk ((wd p2)+1#64) x4)) (.slice none 0 0)) Sh rfl (Vz rfl rfl rfl (Vz rfl rfl rfl rfl))) ?_
 have E:=(((((f.gr G4).kz K6).gr G8).gr G9).gr d)
 refine qz [(1,b3)] rfl (Xf Yi rfl rfl (Xp.cs_ones _ _ rfl) E rfl rfl) ⟨fun _=>Qf,trivial⟩ ?_
 rintro _ W ⟨q,g⟩
 have X:=g.size
 refine kM g ?_
 have F:=(h.md g)
 refine dn 0 rfl rfl F<|Qa<|Qq ?_
 have G:=(((((k.kz K6).trans G8).trans G9).trans d).md g)
 cases hm
 exact⟨_,_,rfl,Za rfl (Zf Yi rfl q rfl) (Qn rfl),(.slice none 0 0),0,0,rfl,(Zi _ 0 176 18),⟨.inl rfl⟩,G⟩
end Go.Proofs.YtopkalcefepilaaGreat.Mx
