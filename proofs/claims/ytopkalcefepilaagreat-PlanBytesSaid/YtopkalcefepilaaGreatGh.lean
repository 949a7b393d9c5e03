/- Walks that follow mirrors: Gh. Printed by mx.py. -/
import Derived.Test.YtopkalcefepilaaGreatGa
import Derived.Test.YtopkalcefepilaaGreatZd
set_option linter.unusedVariables false
set_option linter.unusedSimpArgs false
set_option maxRecDepth 100000
set_option maxHeartbeats 2000000
namespace Go.Proofs.YtopkalcefepilaaGreat.Mx
open Go Go.RowKit Go.Sx
theorem Qq0:En Tryz.prog 45:=fun _ _=>by kernel_rfl
theorem Qa4:En Tryz.prog 59:=fun _ _=>by kernel_rfl
theorem Qju:En Tryz.prog 31:=fun _ _=>by kernel_rfl
theorem Qz6:En Tryz.prog 56:=fun _ _=>by kernel_rfl
theorem Qz7:En Tryz.prog 57:=fun _ _=>by kernel_rfl
theorem Qy7:En Tryz.prog 100:=fun _ _=>by kernel_rfl
theorem Qjv:En Tryz.prog 33:=fun _ _=>by kernel_rfl
theorem Il:Du Tryz.prog 30 1 3 1 [.int .i64 0]:=Nf Tryz.underlying30 (Qm).siz Sd rfl rfl (by kernel_rfl)
theorem Qf5:En Tryz.prog 34:=fun _ _=>by kernel_rfl
theorem Xea {p0 r}(hm:Qlu p0=some r){w:World}:
 Calls Tryz.prog 56 [.int .i64 p0].toArray w fun e w'=>∃ v,e=.returned v∧(∃ bc0,v=.func (.func 100) #[] [.pointer (some ⟨bc0,0,none⟩)].toArray∧Bx w' bc0 3 ([.int .i64 r])∧(w.heap.size≤bc0)∧Gr w w'):=by
 unfold Qlu at hm
 refine Xi 4 Tryz.func56 rfl rfl rfl<|qs 2 rfl<|qe rfl (Xo (cs:=[.int .i64 p0]) rfl rfl) ?_
 rintro _ w1 ⟨b1,rfl,b,a,G1⟩
 have z1:=G1.size
 have c:=a.lt
 refine qm rfl<|qd 2 rfl<|qv rfl (Tu rfl rfl)<|qm rfl<|Qa ?_
 refine Qq ?_
 have X3:=((Gr.refl w).trans G1)
 cases hm
 exact⟨_,_,rfl,Qz rfl (Qn rfl),b1,rfl,a,by omega,X3⟩
theorem Xe9 (p1:Int)(bp1:Nat)(xs:List Int)(hm:Qlv p1=some xs)(w0:World)(hbp1:Bx w0 bp1 3 ([.int .i64 p1])):
 IT Tryz.prog 100 [.pointer (some ⟨bp1,0,none⟩)] (xs.map (fun(x:Int)=>([.int .i64 x]:List Value))) ([bp1]) w0:=by
 intro l J Jx w fp hG hJ hJx hcap h0 hY
 have c1:=Bx.gr hbp1 hG
 have p:=c1.lt
 have j:bp1∉fp:=hcap _ (by simp)
 have hd:=Qcm xs
 unfold Qlv at hm
 refine Xi 14 Tryz.func100 rfl rfl rfl<|qs 1 rfl<|qm rfl<|Qa<|Xn<|Kf (α:=Nat × Int × Nat × List Nat × List Int) (rg 3 11) (fun⟨n1,a2,kk,fpl,rl⟩=>[(3,.int .i64 a2)]) (fun⟨n1,a2,kk,fpl,rl⟩ wr=>(Qv (Qhg p1) n1 a2=some rl)∧Dr xs kk rl∧J kk fpl wr∧(∀ c∈fpl,c∈fp∨w.heap.size≤c)∧Kp fp w wr∧Bx wr bp1 3 ([.int .i64 p1])∧bp1∉fpl∧True) (fun⟨n1,a2,kk,fpl,rl⟩=>n1) ⟨Xb,0,0,fp,xs⟩ ?_ ?_ ?_
 · exact Ql
 · exact⟨hm,hd,h0,(fun c hc=>Or.inl hc),(Kp.refl fp w),c1,j,trivial⟩
 clear hm;rintro⟨n1,a2,g,fpl1,rl1⟩ w1 ⟨hm,dl1,JLw1,sl1,KLw1,d,e,-⟩
 have z4:=KLw1.size
 have q:=d.lt
 have hb:=Kl hm;clear hm;obtain⟨n1,rfl,hm⟩:=hb
 generalize h:Qv (Qhg p1) n1=o at hm
 unfold Qhg at hm
 try dsimp only at hm
 refine Qe<|qs 8 rfl<|qm rfl<|qv rfl (Qi (v:=.int .i64 p1) Qm rfl d rfl)<|qv rfl (Tt (a:=a2) (b:=p1) rfl rfl)<|Vc hm rfl (Qt rfl) (fun c1 hm=>?_) (fun c1 hm=>?_)
 · refine qn 4 rfl<|Qa<|Ty rfl<|Jl ?_
   refine Xu<|Xu<|Jk ?_
   have he:=Option.some.inj hm
   have hl:=Dr.last (c:=(fun(x:Int)=>([.int .i64 x]:List Value))) dl1 he.symm
   refine⟨_,_,rfl,Hj rfl,KLw1,.inl ⟨_,sl1,?_⟩⟩
   rw[←hl];exact JLw1
 refine qn 2 rfl ?_
 obtain⟨rr6,hm,he6⟩:=Aq hm
 have i:=Dr.at dl1 he6
 have hd6:=Dr.next dl1 he6
 refine qe rfl (Bj rfl rfl (hY _ _ _ _ (Gu i) JLw1 KLw1 sl1)) ?_
 rintro _ w2 ⟨bb,rfl,KF6,f,hg6,hJb⟩
 have z7:=KF6.size
 have sub6:∀ c∈f,c∈fp∨w.heap.size≤c:=Na sl1 hg6 (by omega)
 have m:=Ke hg6 e (by omega)
 cases bb
 · have Jy6:Jx (g+1) f w2:=hJb
   refine qm rfl<|Qa<|Ty rfl<|Jl<|Xu<|Xu<|Jk ?_
   have KI9:Kp fp w w2:=(KLw1.trans KF6 sl1)
   exact⟨_,_,rfl,Hj rfl,KI9,.inr ⟨_,_,sub6,(by rw[List.length_map];exact(List.getElem?_eq_some_iff.1 i).1),Jy6⟩⟩
 have Jy6:J (g+1) f w2:=hJb
 refine qm rfl<|Qa<|Nb rfl<|qu<|Qe<|Xn ?_
 refine Jn<|Xh<|Xl<|qg 3 rfl<|qm rfl<|qv rfl (Zd (k:=.i64) (a:=a2) (b:=1) rfl rfl)<|qm rfl ?_
 refine Qk ?_
 have KI10:Kp fp w w2:=(KLw1.trans KF6 sl1)
 have n:=(Bx.kp d KF6 e)
 subst h
 exact⟨rfl,⟨n1,Qc (a2+1),(g+1),f,rr6⟩,Ql,⟨hm,hd6,Jy6,sub6,KI10,n,m,trivial⟩,Nat.lt_succ_self _⟩
theorem Xe6 {p0 p1 bp0 vp0_7 zp0_7 gp0_7 op0_7 vp0_8 zp0_8 gp0_8 op0_8 vp0_9 zp0_9 gp0_9 op0_9 vp0_10 zp0_10 gp0_10 op0_10 r}(hm:Qlq p0 p1=some r){w:World}(hbp0:Bx w bp0 116 (Xc.cs p0 vp0_7 vp0_8 vp0_9 vp0_10))(f:Rd w zp0_7 gp0_7 op0_7 1 vp0_7 (p0.rows.a0.map ic))(g:Rd w zp0_8 gp0_8 op0_8 1 vp0_8 (p0.rows.a1.map ic))(h:Rd w zp0_9 gp0_9 op0_9 1 vp0_9 (p0.rows.a2.map ic))(d:Rd w zp0_10 gp0_10 op0_10 1 vp0_10 (p0.rows.a3.map ic)):
 Calls Tryz.prog 57 [.pointer (some ⟨bp0,0,none⟩),.int .i64 p1].toArray w fun e w'=>∃ v,e=.returned v∧(v=.int .i64 r∧Gr w w'):=by
 have t:=f.lth
 have x:=g.lth
 have y:=h.lth
 have z:=d.lth
 have A:=hbp0.lt
 unfold Qlq at hm
 refine Xi 17 Tryz.func57 rfl rfl rfl<|qs 1 rfl<|qm rfl<|Qa<|Qe<|Qe ?_
 refine qg 2 rfl<|qm rfl<|qv rfl (Zu (a:=p1) (b:=0) rfl rfl)<|Qa<|Zv hm rfl (fun c1 hm=>?_) (fun c1 hm=>?_)
 · refine qs 1 rfl<|qm rfl<|qb ?_
   cases hm
   exact⟨_,_,rfl,Qz rfl (Qn rfl),rfl,(Gr.refl w)⟩
 refine qu<|qs 11 rfl<|qn 2 rfl<|qv rfl (Hy rfl rfl) ?_
 refine qv rfl (Qh Qad rfl)<|qv rfl (Qh Wo rfl)<|qv rfl (Qi (v:=.int .i64 p0.s.Depth) Qm rfl hbp0 rfl) ?_
 obtain⟨x1,p,hm⟩:=Qd hm
 refine qe rfl (eC Qf8 rfl (Qlo p hbp0 f g h d)) ?_
 rintro j w1 ⟨_,k,l,m,rfl,c,n,G1⟩
 have z6:=G1.size
 have B:=c.lth
 refine qm rfl ?_
 obtain⟨y2,o,hm⟩:=Qd hm
 refine qv rfl (Yq (i:=p1) Tryz.underlying30 (Qm).siz rfl c rfl o)<|qv rfl (Hl (q:=0) (u:=.int .i64 y2) Qm rfl c o (by first|rfl|omega) rfl)<|qm rfl<|Qa<|Qq ?_
 have X8:=((Gr.refl w).trans G1)
 cases hm
 exact⟨_,_,rfl,Qz rfl (Qn rfl),rfl,X8⟩
theorem Xe1 {t d bp0_0 bp1_0 vp1_0_7 zp1_0_7 gp1_0_7 op1_0_7 vp1_0_8 zp1_0_8 gp1_0_8 op1_0_8 vp1_0_9 zp1_0_9 gp1_0_9 op1_0_9 vp1_0_10 zp1_0_10 gp1_0_10 op1_0_10 r}(hm:Qlj t d=some r){w:World}(hbp0_0:Bx w bp0_0 3 ([.int .i64 t]))(hbp1_0:Bx w bp1_0 116 (Xc.cs d vp1_0_7 vp1_0_8 vp1_0_9 vp1_0_10))(j:Rd w zp1_0_7 gp1_0_7 op1_0_7 1 vp1_0_7 (d.rows.a0.map ic))(m:Rd w zp1_0_8 gp1_0_8 op1_0_8 1 vp1_0_8 (d.rows.a1.map ic))(n:Rd w zp1_0_9 gp1_0_9 op1_0_9 1 vp1_0_9 (d.rows.a2.map ic))(f:Rd w zp1_0_10 gp1_0_10 op1_0_10 1 vp1_0_10 (d.rows.a3.map ic)):
 Calls Tryz.prog 55 [.func (.func 100) [].toArray [.pointer (some ⟨bp0_0,0,none⟩)].toArray,.func (.func 57) [.pointer (some ⟨bp1_0,0,none⟩)].toArray [].toArray].toArray w fun e w'=>∃ v,e=.returned v∧(v=.tuple [.int .i64 r.1,.int .i64 r.2].toArray∧Gr w w'):=by
 have bc:=hbp0_0.lt
 have u:=j.lth
 have y:=m.lth
 have z:=n.lth
 have A:=f.lth
 have bd:=hbp1_0.lt
 unfold Qlj at hm
 refine Xi 24 Tryz.func55 rfl rfl rfl<|qs 3 rfl<|qe rfl (Xo rfl rfl) ?_
 rintro _ w1 ⟨b1,rfl,aQ,N,G1⟩
 have z7:=G1.size
 have bf:=N.lt
 refine qe rfl (Xg (cs:=[.int .i64 0]) Sd rfl) ?_
 rintro _ w2 ⟨b2,rfl,aR,O,G2⟩
 have z9:=G2.size
 have aS:=O.lt
 refine qe rfl (Xg (cs:=[.int .i64 0]) Sd rfl) ?_
 rintro _ w3 ⟨b3,rfl,aT,P,G3⟩
 have bg:=G3.size
 have aU:=P.lt
 refine qd 2 rfl<|qe rfl (Xg (cs:=[.bool false]) Qvr rfl) ?_
 rintro _ w4 ⟨b4,rfl,aV,Q,G4⟩
 have bh:=G4.size
 have aW:=Q.lt
 refine qe rfl (Zp (cs':=[.bool true]) (Ns).siz rfl rfl rfl Q rfl rfl) ?_
 rintro _ w5 ⟨ag,M5⟩
 have bi:=M5.size
 refine Qa<|Qe<|qs 1 rfl<|qm rfl<|Qa<|Xn ?_
 have Y1:=Gr.trans (Gr.trans (Gr.trans G1 G2) G3) G4
 have ah:=((hbp0_0.gr Y1).md M5)
 obtain⟨l1,ai,hm⟩:=Qd hm
 have R:=(((Gr.refl w).trans Y1).md M5)
 have aj:=((j.gr Y1).md M5 (Qw u))
 have ak:=((m.gr Y1).md M5 (Qw y))
 have al:=((n.gr Y1).md M5 (Qw z))
 have am:=((f.gr Y1).md M5 (Qw A))
 have an:=((hbp1_0.gr Y1).md M5)
 have Y2:=Gr.trans (Gr.trans G2 G3) G4
 have ao:=((N.gr Y2).md M5)
 have Y3:=Gr.trans G3 G4
 have ap:=((O.gr Y3).md M5)
 have aq:=((P.gr G4).md M5)
 refine Rl (gf:=100) rfl Qy7 (Xe9 t _ _ ai _ ah) (by intro x hx;obtain⟨a,_,rfl⟩:=List.mem_map.1 hx;rfl) rfl _ (fun _ _ _ _=>False) ([b2,b3,b4]) (Sa (α:=Int × Int × Bool) (fun⟨a5,a6,a7⟩ rk=>Js (Qgw d) Qgu (List.drop rk l1) (a5,a6,a7)=some r) (fun⟨a5,a6,a7⟩=>([b2,b3,b4])) (fun⟨a5,a6,a7⟩ W=>Bx W b2 3 ([.int .i64 a5])∧Bx W b3 3 ([.int .i64 a6])∧Bx W b4 4 ([.bool a7])∧True) (by rintro⟨a5,a6,a7⟩ W ⟨F0,F1,F2,_⟩ b hb;have q0:=F0.lt;have q1:=F1.lt;have q2:=F2.lt;replace hb:b∈([b2,b3,b4]):=hb;simp only[List.mem_cons,List.mem_append,Xt,List.not_mem_nil,or_false,false_or,not_or,ne_eq,List.nil_append,List.cons_append,true_and,and_true,false_and,and_false,not_true_eq_false,not_false_eq_true,or_true,true_or] at hb;omega) (by rintro⟨a5,a6,a7⟩ W W' ⟨F0,F1,F2,_⟩ E hs;replace hs:∀ b∈([b2,b3,b4]),W'.heap[b]? = W.heap[b]? := hs;exact⟨(hs _ (by simp)).trans F0,(hs _ (by simp)).trans F1,(hs _ (by simp)).trans F2,trivial⟩)) (fun _=>Al) (by intro b hb;simp only[List.mem_cons,List.mem_append,Xt,List.not_mem_nil,or_false,false_or,not_or,ne_eq,List.nil_append,List.cons_append,true_and,and_true,false_and,and_false,not_true_eq_false,not_false_eq_true,or_true,true_or] at hb ⊢;omega) ⟨⟨0,0,true⟩,hm,rfl,ap,aq,ag,trivial⟩ ?_ ?_ ?_
 · rintro l rk x fp w6 hl hx _ K6 hF hln Jc
   clear hm
   obtain⟨e8,hxe,rfl⟩:=map_some hx
   have o:Kz [(1,b2),(1,b3),(1,b4)] w5 w6:=Ta K6 (by intro k hk;simp only[Zh,and_true,List.mem_cons,List.mem_append,Xt,List.not_mem_nil,or_false,false_or,not_or,ne_eq,List.nil_append,List.cons_append,true_and,and_true,false_and,and_false,not_true_eq_false,not_false_eq_true,or_true,true_or] at hk ⊢;omega)
   have bj:=K6.size
   refine qg 1 rfl<|qm rfl<|Qk<|⟨rfl,(Gr.refl _),?_⟩
   rintro w7 M7 ⟨⟨a5,a6,a7⟩,hm,rfl,g,p,i,-⟩
   have bk:=M7.size
   have aX:=g.lt
   have aY:=p.lt
   have aZ:=i.lt
   replace hm:=Br hm hxe
   generalize hnx1:Js (Qgw d) Qgu (List.drop (rk+1) l1)=ar at hm
   unfold Qgw at hm
   try dsimp only at hm
   refine Xn<|qs 4 rfl ?_
   have au:=((ao.kz o).md M7)
   refine qv rfl (Qi Qso rfl au rfl)<|qm rfl ?_
   have av:=((an.kz o).md M7)
   have aw:=((aj.kz o (Cn (Qw (b:=b2) u) (Qw (b:=b3) u) (Qw (b:=b4) u))).md M7 (Qw u))
   have ax:=((ak.kz o (Cn (Qw (b:=b2) y) (Qw (b:=b3) y) (Qw (b:=b4) y))).md M7 (Qw y))
   have ay:=((al.kz o (Cn (Qw (b:=b2) z) (Qw (b:=b3) z) (Qw (b:=b4) z))).md M7 (Qw z))
   have az:=((am.kz o (Cn (Qw (b:=b2) A) (Qw (b:=b3) A) (Qw (b:=b4) A))).md M7 (Qw A))
   obtain⟨x9,aA,hm⟩:=Qd hm
   refine qe rfl (Yu Qz7 rfl rfl (Xe6 aA av aw ax ay az)) ?_
   rintro _ w8 ⟨rfl,G8⟩
   have bl:=G8.size
   refine qm rfl<|Qa ?_
   have bm:=(((R.kz o).md M7).trans G8)
   refine qj (β:=Bool) (rg 14 6) (fun G=>[(19,.bool G)]) (fun G wr=>(Qgv a5 a6 a7 ar e8 x9 G=some r)∧Kz [] w8 wr) ?_ ?_
   · refine qg 6 rfl ?_
     have aB:=(i.gr G8)
     refine qv rfl (Qi (v:=.bool a7) Ns rfl aB rfl)<|Ch hm rfl (Qt rfl) (fun c2 hm=>?_) (fun c2 hm=>?_)
     · refine qn 4 rfl<|Qk ?_
       exact⟨rfl,true,Ql,hm,Xe⟩
     refine qm rfl ?_
     have aC:=(g.gr G8)
     refine qv rfl (Qi (v:=.int .i64 a5) Qm rfl aC rfl)<|qv rfl (Wr (a:=x9) (b:=a5) rfl rfl)<|qm rfl<|Qk ?_
     exact⟨rfl,(decide (a5<x9)),Ql,hm,Xe⟩
   clear hm;rintro G w9 ⟨hm,K9⟩
   have bo:=K9.size
   unfold Qgv at hm
   refine Si hm rfl (fun c1 hm=>?_) (fun c1 hm=>?_)
   · refine Jn<|Xh ?_
     have aD:=((g.gr G8).kz K9)
     have aE:=((p.gr G8).kz K9)
     have aF:=((i.gr G8).kz K9)
     have K_49:Kz [(1,b2),(1,b3),(1,b4)] w7 w9:=((Kz.gr (Kz.refl _ _) G8).kz K9)
     have Kq49:Kp ([b2,b3,b4]) w7 w9:=Lo K_49 (by intro k hk;simp only[Zh,and_true,List.mem_cons,List.mem_append,Xt,List.not_mem_nil,or_false,false_or,not_or,ne_eq,List.nil_append,List.cons_append,true_and,and_true,false_and,and_false,not_true_eq_false,not_false_eq_true,or_true,true_or] at hk ⊢;omega)
     subst hnx1
     exact⟨Kq49,([b2,b3,b4]),(by intro c hc;simp only[List.mem_cons,List.mem_append,Xt,List.not_mem_nil,or_false,false_or,not_or,ne_eq,List.nil_append,List.cons_append,true_and,and_true,false_and,and_false,not_true_eq_false,not_false_eq_true,or_true,true_or] at hc ⊢;omega),⟨⟨a5,a6,a7⟩,hm,rfl,aD,aE,aF,trivial⟩⟩
   refine qg 5 rfl<|qn 2 rfl ?_
   have aG:=((g.gr G8).kz K9)
   refine qe rfl (Zp (cs':=[.int .i64 x9]) (Qm).siz rfl rfl rfl aG rfl rfl) ?_
   rintro _ bp ⟨S,H⟩
   have bq:=H.size
   have aH:=(((p.gr G8).kz K9).md H)
   refine qe rfl (Zp (cs':=[.int .i64 e8]) (Qm).siz rfl rfl rfl aH rfl rfl) ?_
   rintro _ br ⟨T,I⟩
   have bs:=I.size
   have aI:=((((i.gr G8).kz K9).md H).md I)
   refine qe rfl (Zp (cs':=[.bool false]) (Ns).siz rfl rfl rfl aI rfl rfl) ?_
   rintro _ U ⟨V,J⟩
   have bu:=J.size
   refine Qk<|Xh ?_
   have aJ:=((S.md I).md J)
   have aK:=(T.md J)
   have K_46:Kz [(1,b2),(1,b3),(1,b4)] w7 U:=(((((Kz.gr (Kz.refl _ _) G8).kz K9).md H).md I).md J)
   have Kq46:Kp ([b2,b3,b4]) w7 U:=Lo K_46 (by intro k hk;simp only[Zh,and_true,List.mem_cons,List.mem_append,Xt,List.not_mem_nil,or_false,false_or,not_or,ne_eq,List.nil_append,List.cons_append,true_and,and_true,false_and,and_false,not_true_eq_false,not_false_eq_true,or_true,true_or] at hk ⊢;omega)
   subst hnx1
   exact⟨Kq46,([b2,b3,b4]),(by intro c hc;simp only[List.mem_cons,List.mem_append,Xt,List.not_mem_nil,or_false,false_or,not_or,ne_eq,List.nil_append,List.cons_append,true_and,and_true,false_and,and_false,not_true_eq_false,not_false_eq_true,or_true,true_or] at hc ⊢;omega),⟨⟨x9,e8,false⟩,hm,rfl,aJ,aK,V,trivial⟩⟩
 · clear hm;rintro B fp X aL C Y ⟨⟨a5,a6,a7⟩,hm,rfl,q,s,K,-⟩ Z
   replace hm:=Bs hm
   have aa:Kz [(1,b2),(1,b3),(1,b4)] w5 X:=Ta Z (by intro k hk;simp only[Zh,and_true,List.mem_cons,List.mem_append,Xt,List.not_mem_nil,or_false,false_or,not_or,ne_eq,List.nil_append,List.cons_append,true_and,and_true,false_and,and_false,not_true_eq_false,not_false_eq_true,or_true,true_or] at hk ⊢;omega)
   have bw:=Z.size
   have a4:=Df.lt (w:=X) C
   simp only[List.mem_cons,List.mem_append,Xt,List.not_mem_nil,or_false,false_or,not_or,ne_eq,List.nil_append,List.cons_append,true_and,and_true,false_and,and_false,not_true_eq_false,not_false_eq_true,or_true,true_or,not_and] at Y
   have a8:=q.lt
   have a9:=s.lt
   have ba:=K.lt
   unfold Qgu at hm
   try dsimp only at hm
   refine Xh<|Xl<|Qe<|dw [([b2,b3]),([b3]),([b2])] [(2,[1]),(3,[2])] (.leaf [(0,11),(1,12),(2,0),(3,0)]) ?_
   intro bx L bb
   refine Zz ?_
   have ab:=(q.gr L)
   refine dh 1 rfl rfl (fun w hS=>Qi (v:=.int .i64 a5) Qm rfl (Bx.kp ab hS) rfl) ?_
   have ac:=(s.gr L)
   refine dh 2 rfl rfl (fun w hS=>Qi (v:=.int .i64 a6) Qm rfl (Bx.kp ac hS) rfl)<|qz [(1,b2)] rfl (Zp (cs':=[.int .i64 a5]) (Qm).siz rfl rfl rfl ab rfl rfl) ⟨fun _=>Qf,nofun,fun _=>Qf,trivial⟩ ?_
   rintro _ bz ⟨ad,D⟩
   have bA:=D.size
   refine kM D ?_
   have aM:=(ac.md D)
   refine qz [(1,b3)] rfl (Zp (cs':=[.int .i64 a6]) (Qm).siz rfl rfl rfl aM rfl rfl) ⟨fun _=>Qf,fun _=>Qf,nofun,trivial⟩ ?_
   rintro _ ae ⟨af,F⟩
   have bB:=F.size
   refine kM F<|Qa<|Qq ?_
   have DL67:=(Df.md (Df.md (Df.gr C L) D) F)
   have M:=Md.put (w:=ae) B (.deferred none)
   have zL67:=M.size
   have aN:=((ad.md F).md M)
   have aO:=(af.md M)
   have aP:Gr w (ae.putObj B (.deferred none)):=(((((R.kz aa).trans L).md D).md F).md M)
   cases hm
   refine⟨_,_,⟨B,rfl,DL67,rfl⟩,Za rfl (Qbe Qm rfl aN) (Qbe Qm rfl aO),?_⟩
   exact⟨rfl,aP⟩
 rintro _ _ _ _ _ _ _ _ _ h _
 exact h.elim
theorem Qlt {p0 p1 bp0 vp0_7 zp0_7 gp0_7 op0_7 vp0_8 zp0_8 gp0_8 op0_8 vp0_9 zp0_9 gp0_9 op0_9 vp0_10 zp0_10 gp0_10 op0_10 r}(hm:Et p0 p1=some r){w:World}(hbp0:Bx w bp0 116 (Xc.cs p0 vp0_7 vp0_8 vp0_9 vp0_10))(c:Rd w zp0_7 gp0_7 op0_7 1 vp0_7 (p0.rows.a0.map ic))(d:Rd w zp0_8 gp0_8 op0_8 1 vp0_8 (p0.rows.a1.map ic))(f:Rd w zp0_9 gp0_9 op0_9 1 vp0_9 (p0.rows.a2.map ic))(b:Rd w zp0_10 gp0_10 op0_10 1 vp0_10 (p0.rows.a3.map ic)):
 Calls Tryz.prog 33 [.pointer (some ⟨bp0,0,none⟩),.int .i64 p1].toArray w fun e w'=>∃ v,e=.returned v∧(v=.tuple [.int .i64 r.1,.int .i64 r.2].toArray∧Gr w w'):=by
 have o:=c.lth
 have p:=d.lth
 have q:=f.lth
 have s:=b.lth
 have t:=hbp0.lt
 unfold Et at hm
 refine Xi 13 Tryz.func33 rfl rfl rfl<|qs 2 rfl<|qn 2 rfl<|Qa<|Qe ?_
 refine qg 9 rfl<|qm rfl ?_
 obtain⟨x1,i,hm⟩:=Qd hm
 refine qe rfl (eC Qz6 rfl (Xea i)) ?_
 rintro _ w1 ⟨g,rfl,a,h,G1⟩
 have z6:=G1.size
 have u:=a.lt
 refine qm rfl<|qv rfl (Tu rfl rfl) ?_
 have B8:=(hbp0.gr G1)
 have B9:=(c.gr G1)
 have j:=(d.gr G1)
 have k:=(f.gr G1)
 have l:=(b.gr G1)
 obtain⟨x2,m,hm⟩:=Qd hm
 refine qe rfl (eC Qq2 rfl (Xe1 m a B8 B9 j k l)) ?_
 rintro _ w2 ⟨rfl,G2⟩
 have x:=G2.size
 refine qn 4 rfl<|Qa<|Qq ?_
 have n:=(((Gr.refl w).trans G1).trans G2)
 cases hm
 exact⟨_,_,rfl,Za rfl (Qn rfl) (Qn rfl),rfl,n⟩
theorem Xdz {p0 p1 r}(hm:Qlh p0 p1=some r){w:World}:
 Calls Tryz.prog 46 [.agg (Qj.cs p0).toArray,.int .i64 p1].toArray w fun e w'=>∃ v,e=.returned v∧(v=.tuple [.int .i64 r.1,.int .i64 r.2].toArray∧Gr w w'):=by
 unfold Qlh at hm
 refine Xi 26 Tryz.func46 rfl rfl rfl<|qs 3 rfl<|qe rfl (Xo (cs:=Qj.cs p0) rfl rfl) ?_
 rintro _ w1 ⟨b1,rfl,P,G,G1⟩
 have z1:=G1.size
 have ac:=G.lt
 refine qn 2 rfl<|qd 8 rfl<|qv rfl (Xa Zq rfl G rfl)<|qm rfl ?_
 refine Cj 23 Tryz.func45 rfl rfl rfl Qq0 rfl rfl rfl rfl rfl<|qs 3 rfl<|qe rfl (Xo (cs:=Qj.cs p0) rfl rfl) ?_
 rintro _ w2 ⟨b2,rfl,Q,i,G2⟩
 have z3:=G2.size
 have ad:=i.lt
 refine qn 2 rfl<|Qa<|Qe<|qs 3 rfl<|qv rfl (Xa Zq rfl i rfl) ?_
 obtain⟨x1,J,hm⟩:=Qd hm
 refine qe rfl (eC Qa4 rfl (Oc J)) ?_
 rintro _ w3 ⟨rfl,G3⟩
 have z5:=G3.size
 refine qm rfl<|qd 2 rfl<|qm rfl<|qv rfl (Kg (a:=x1) (b:=0) rfl rfl)<|Qa ?_
 refine Zv hm rfl (fun c1 hm=>?_) (fun c1 hm=>?_)
 · refine qs 3 rfl<|qn 3 rfl<|Qa<|Qq ?_
   refine Xz<|⟨_,_,rfl,Za rfl (Qn rfl) (Qn rfl),?_⟩
   refine qn 5 rfl<|Qa<|Qe ?_
   refine qs 2 rfl<|qm rfl<|qv rfl (Kg (a:=x1) (b:=0) rfl rfl)<|Qa<|Kx hm rfl (fun c2 hm=>?_) (fun c2 hm=>?_)
   · cases hm
   refine qs 3 rfl<|qn 3 rfl<|Qa<|Qq ?_
   refine Xz ?_
   have X6:=((((Gr.refl w).trans G1).trans G2).trans G3)
   cases hm
   exact⟨_,_,rfl,Za rfl (Qn rfl) (Qn rfl),rfl,X6⟩
 refine qu<|Qe ?_
 have X7:=((((Gr.refl w).trans G1).trans G2).trans G3)
 refine qj (β:=Bool) (rg 12 9) (fun a2=>[(20,.bool a2)]) (fun a2 wr=>(Qgq p0 p1 a2=some r)∧Kz [] w3 wr) ?_ ?_
 · refine qg 9 rfl<|qm rfl<|qv rfl (Jv (a:=p1) (b:=0) rfl rfl)<|Ji hm rfl (Qt rfl) (fun c4 hm=>?_) (fun c4 hm=>?_)
   · refine qn 6 rfl<|Qk ?_
     exact⟨rfl,true,Ql,hm,Xe⟩
   refine qm rfl<|qv rfl (Qh Wo rfl) ?_
   have K:=(i.gr G3)
   refine qv rfl (Qi (v:=.int .i64 p0.Depth) Qm rfl K rfl) ?_
   obtain⟨nn5,hnn5,hm⟩:=Qd hm
   refine qv rfl (Tf (a:=1) (b:=p0.Depth) rfl rfl hnn5)<|qv rfl (Wr (a:=p1) (b:=Xw 1 nn5) rfl rfl)<|qm rfl<|Qk ?_
   exact⟨rfl,(decide (Xw 1 nn5<p1)),Ql,hm,Xe⟩
 clear hm;rintro a2 w4 ⟨hm,K4⟩
 have z8:=K4.size
 unfold Qgq at hm
 refine Jo hm rfl (fun c3 hm=>?_) (fun c3 hm=>?_)
 · refine qs 2 rfl<|qn 2 rfl<|Qa<|Qq<|Xz ?_
   refine⟨_,_,rfl,Za rfl (Qn rfl) (Qn rfl),?_⟩
   refine qn 5 rfl<|Qa<|Qe ?_
   refine qs 2 rfl<|qm rfl<|qv rfl (Kg (a:=2) (b:=0) rfl rfl)<|Qa<|Nb rfl<|Qe ?_
   refine qg 3 rfl<|qn 3 rfl<|Qa<|Qq<|Xz ?_
   have X9:=(X7.kz K4)
   cases hm
   exact⟨_,_,rfl,Za rfl (Qn rfl) (Qn rfl),rfl,X9⟩
 refine qu<|qs 4 rfl ?_
 have L:=((i.gr G3).kz K4)
 refine qv rfl (Xa Zq rfl L rfl) ?_
 obtain⟨x3,M,hm⟩:=Qd hm
 refine qe rfl (eC Qju rfl (Qlk M)) ?_
 rintro _ w5 ⟨H,o,p,q,s,t,u,x,y,z,j,k,l,rfl,h,I,d,A,B,f,C,D,g,E,F,c,m,n,R,S,T,U,V,W,G5⟩
 have ae:=G5.size
 have X:=d.lth
 have Y:=f.lth
 have Z:=g.lth
 have aa:=c.lth
 have ab:=h.lt
 refine qn 2 rfl<|Qa<|Qq<|⟨_,_,rfl,Za rfl (Qn rfl) (Qn rfl),?_⟩
 refine qn 5 rfl<|Qa<|Qe ?_
 refine qs 2 rfl<|qm rfl<|qv rfl (Kg (a:=0) (b:=0) rfl rfl)<|Qa<|Ty rfl<|Jn ?_
 refine Xl<|qs 8 rfl<|qn 2 rfl ?_
 obtain⟨x4,N,hm⟩:=Qd hm
 refine qe rfl (eC Qjv rfl (Qlt N h (Qg.rd d) (Qg.rd f) (Qg.rd g) (Qg.rd c))) ?_
 rintro _ w6 ⟨rfl,G6⟩
 have af:=G6.size
 refine qn 5 rfl<|Qa<|Qe ?_
 refine qg 3 rfl<|qn 3 rfl<|Qa<|Qq ?_
 have O:=(((X7.kz K4).trans G5).trans G6)
 cases hm
 exact⟨_,_,rfl,Za rfl (Qn rfl) (Qn rfl),rfl,O⟩
theorem Xe7 (n:Nat):∀ (p0:Xc) (p1:List Int) (p2:Int) (p3:Int) (p4:Int) (p5:Int) (bp0:Nat) (vp0_7:Value) (zp0_7 gp0_7 op0_7:Nat) (vp0_8:Value) (zp0_8 gp0_8 op0_8:Nat) (vp0_9:Value) (zp0_9 gp0_9 op0_9:Nat) (vp0_10:Value) (zp0_10 gp0_10 op0_10:Nat) (vp1:Value) (zp1 gp1:Nat) (r:List Int) (hm:Qv Qhd n (p0,p1,p2,p3,p4,p5)=some r) (w:World) (hbp0:Bx w bp0 116 (Xc.cs p0 vp0_7 vp0_8 vp0_9 vp0_10)) (g:Rd w zp0_7 gp0_7 op0_7 1 vp0_7 (p0.rows.a0.map ic)) (h:Rd w zp0_8 gp0_8 op0_8 1 vp0_8 (p0.rows.a1.map ic)) (i:Rd w zp0_9 gp0_9 op0_9 1 vp0_9 (p0.rows.a2.map ic)) (f:Rd w zp0_10 gp0_10 op0_10 1 vp0_10 (p0.rows.a3.map ic)) (C:Qg w zp1 gp1 3 1 vp1 (p1.map ic)) (j:Xd (zp1=0∨zp0_7=0∨gp1≠gp0_7)) (t:Xd (zp1=0∨zp0_8=0∨gp1≠gp0_8)) (u:Xd (zp1=0∨zp0_9=0∨gp1≠gp0_9)) (y:Xd (zp1=0∨zp0_10=0∨gp1≠gp0_10)) (D:Xd (zp1=0∨gp1≠bp0)),
 Calls Tryz.prog 34 [.pointer (some ⟨bp0,0,none⟩),vp1,.int .i64 p2,.int .i64 p3,.int .i64 p4,.int .i64 p5].toArray w fun e w'=>∃ v,e=.returned v∧(∃ (ur0_s:Value) (zr0_s:Nat) (gr0_s:Nat),v=ur0_s∧Qg w' zr0_s gr0_s 3 1 ur0_s (r.map ic)∧Xd (zr0_s=0∨(gr0_s=gp1∧zp1≠0)∨w.heap.size≤gr0_s)∧Kz [(zp1,gp1)] w w'):=by
 induction n with
 | zero=>intro p0 p1 p2 p3 p4 p5 bp0 vp0_7 zp0_7 gp0_7 op0_7 vp0_8 zp0_8 gp0_8 op0_8 vp0_9 zp0_9 gp0_9 op0_9 vp0_10 zp0_10 gp0_10 op0_10 vp1 zp1 gp1 r hm w hbp0 g h i f C j t u y D;cases hm
 | succ n ih=>
 intro p0 p1 p2 p3 p4 p5 bp0 vp0_7 zp0_7 gp0_7 op0_7 vp0_8 zp0_8 gp0_8 op0_8 vp0_9 zp0_9 gp0_9 op0_9 vp0_10 zp0_10 gp0_10 op0_10 vp1 zp1 gp1 r hm w hbp0 g h i f C j t u y D
 replace hm:Qlr (Qv Qhd n) p0 p1 p2 p3 p4 p5=some r:=hm
 generalize Qv Qhd n=L at hm ih
 have U:=g.lth
 have V:=h.lth
 have W:=i.lth
 have X:=f.lth
 have aC:=hbp0.lt
 have M:=C.lth
 unfold Qlr at hm
 refine Xi 82 Tryz.func34 rfl rfl rfl<|qs 1 rfl<|qm rfl<|Qa<|Qe<|Xn ?_
 refine qs 3 rfl<|qm rfl<|qv rfl (Zu (a:=p5) (b:=0) rfl rfl)<|qm rfl<|Qa<|Zv hm rfl (fun c1 hm=>?_) (fun c1 hm=>?_)
 · refine qs 2 rfl<|qn 2 rfl<|Qa<|Qq<|Jf ?_
   refine Xz ?_
   cases hm
   exact⟨_,_,rfl,Qz rfl (Qn rfl),vp1,zp1,gp1,rfl,C,⟨Qf⟩,(Kz.refl _ w)⟩
 refine qs 3 rfl<|qm rfl<|qv rfl (Zu (a:=p4) (b:=0) rfl rfl)<|qm rfl<|Qa<|Zv hm rfl (fun c2 hm=>?_) (fun c2 hm=>?_)
 · refine qs 12 rfl<|qn 3 rfl<|qv rfl (Hy rfl rfl)<|qv rfl (Qh Qad rfl) ?_
   refine qv rfl (Qh Wo rfl)<|qv rfl (Qi (v:=.int .i64 p0.s.Depth) Qm rfl hbp0 rfl) ?_
   obtain⟨nn1,hnn1,hm⟩:=Qd hm
   refine qv rfl (Tf (a:=1) (b:=p0.s.Depth) rfl rfl hnn1)<|qv rfl (Vx (k:=.i64) (a:=p2) (b:=Xw 1 nn1) rfl rfl)<|qe rfl (Ha [Qc (p2-(Xw 1 nn1))] ic Il rfl rfl (Pc rfl) rfl rfl rfl) ?_
   rintro aD w1 ⟨aE,az,N,G1⟩
   have z7:=G1.size
   have aF:=N.lth
   have B9:=(C.gr G1)
   obtain⟨l2,Y,hm⟩:=Qd hm
   refine qe rfl (Nk (l:=p1) (m:=[Qc (p2-(Xw 1 nn1))]) (c:=ic) Qnw rfl rfl B9 (Qg.rd N) Y (by decide)) ?_
   rintro Z w2 ⟨aa,ab,ac,O,aG,ad⟩
   have aH:=O.size
   refine qm rfl<|Qa<|Qq<|Jf<|Xz ?_
   have ae:=(((Kz.refl [(zp1,gp1)] w).gr G1).ka O (Qb (Qf:zp1=0∨(gp1=gp1∧zp1≠0)∨w.heap.size≤gp1)))
   cases hm
   exact⟨_,_,rfl,Qz rfl (Qn rfl),Z,aa,ab,rfl,ac,⟨(Tq (A:=(fun x=>(x=gp1∧zp1≠0)∨w.heap.size≤x)) ad Qf)⟩,ae⟩
 refine Jn<|Xh<|Xl<|qs 10 rfl<|qn 2 rfl ?_
 refine qn 2 rfl ?_
 obtain⟨x3,af,hm⟩:=Qd hm
 refine qe rfl (eC Qcp rfl (Qdj af hbp0 g h i f)) ?_
 rintro _ w3 ⟨rfl,G3⟩
 have aI:=G3.size
 refine qn 5 rfl<|Qa<|Qe ?_
 refine qg 1 rfl<|qm rfl<|Qa ?_
 have ag:=((Kz.refl [(zp1,gp1)] w).gr G3)
 refine qj (β:=Int) ([15]++rg 42 19) (fun a4=>[(15,.int .i64 a4)]) (fun a4 wr=>(Qhe p0 p1 p2 p4 p5 L x3 a4=some r)∧Kz [] w3 wr) ?_ ?_
 · refine qj (β:=Bool) (rg 42 15) (fun a7=>[(56,.bool a7)]) (fun a7 wr=>(Qdl p0 p1 p2 p3 p4 p5 L x3 a7=some r)∧Kz [] w3 wr) ?_ ?_
   · refine qg 15 rfl<|qm rfl<|qv rfl (Hy rfl rfl)<|qv rfl (Qh Qad rfl)<|qv rfl (Qh Ye rfl) ?_
     have ah:=(hbp0.gr G3)
     refine qv rfl (Qi (v:=bv p0.s.Kind) Zb rfl ah rfl)<|qv rfl (Xhn (p:=p0.s.Kind) (q:=1#8) rfl rfl)<|Vc hm rfl (Qt rfl) (fun c4 hm=>?_) (fun c4 hm=>?_)
     · refine qn 7 rfl ?_
       refine qm rfl<|Qk ?_
       exact⟨rfl,false,Ql,hm,Xe⟩
     refine qm rfl<|qv rfl (Zu (a:=x3.2) (b:=0) rfl rfl)<|Ji hm rfl (Qt rfl) (fun c5 hm=>?_) (fun c5 hm=>?_)
     · refine qn 5 rfl<|Qk ?_
       exact⟨rfl,true,Ql,hm,Xe⟩
     refine qn 2 rfl<|qv rfl (Zu (a:=x3.2) (b:=p5) rfl rfl)<|qn 2 rfl<|Qk ?_
     exact⟨rfl,(decide (x3.2=p5)),Ql,hm,Xe⟩
   clear hm;rintro a7 w7 ⟨hm,K7⟩
   have aJ:=K7.size
   unfold Qdl at hm
   refine Si hm rfl (fun c3 hm=>?_) (fun c3 hm=>?_)
   · refine Jn ?_
     exact⟨rfl,0,Ql,hm,(Xe.kz K7)⟩
   refine qg 5 rfl<|qn 3 rfl ?_
   have ai:=((hbp0.gr G3).kz K7)
   have aj:=((g.gr G3).kz K7)
   have ak:=((h.gr G3).kz K7)
   have al:=((i.gr G3).kz K7)
   have am:=((f.gr G3).kz K7)
   obtain⟨x8,an,hm⟩:=Qd hm
   refine qe rfl (eC Qq3 rfl (Qsx an ai aj ak al am)) ?_
   rintro _ w8 ⟨rfl,G8⟩
   have aK:=G8.size
   refine qm rfl<|Qk ?_
   exact⟨rfl,x8,Ql,hm,((Xe.kz K7).gr G8)⟩
 clear hm;rintro a4 w4 ⟨hm,K4⟩
 have aL:=K4.size
 unfold Qhe at hm
 refine qs 10 rfl<|qn 3 rfl<|qv rfl (Hw (k:=.i64) (a:=2) (b:=p2) rfl rfl)<|qm rfl ?_
 refine qm rfl<|qv rfl (Vx (k:=.i64) (a:=p4) (b:=1) rfl rfl)<|qm rfl ?_
 have P:=((hbp0.gr G3).kz K4)
 have Q:=((g.gr G3).kz K4)
 have R:=((h.gr G3).kz K4)
 have S:=((i.gr G3).kz K4)
 have T:=((f.gr G3).kz K4)
 have ao:=((C.gr G3).kz K4)
 obtain⟨x5,ap,hm⟩:=Qd hm
 refine qe rfl (eC Qf5 rfl (ih p0 p1 (Qc (2*p2)) a4 (Qc (p4-1)) x3.2 _ _ _ _ _ _ _ _ _ _ _ _ _ _ _ _ _ vp1 zp1 gp1 _ ap _ P Q R S T ao ⟨(Qb ((Qb j.o):zp1=0∨zp0_7=0∨gp1≠gp0_7))⟩ ⟨(Qb ((Qb t.o):zp1=0∨zp0_8=0∨gp1≠gp0_8))⟩ ⟨(Qb ((Qb u.o):zp1=0∨zp0_9=0∨gp1≠gp0_9))⟩ ⟨(Qb ((Qb y.o):zp1=0∨zp0_10=0∨gp1≠gp0_10))⟩ ⟨(Qb ((by have:=M.o;have:=j.o;have:=t.o;have:=u.o;have:=y.o;have:=D.o;(try simp only[Zh,Vg,Vm,Yo,Mz,or_true,true_or,and_true,List.mem_cons,List.mem_append,Xt,List.not_mem_nil,or_false,false_or,not_or,ne_eq,List.nil_append,List.cons_append,true_and,and_true,false_and,and_false,not_true_eq_false,not_false_eq_true,or_true,true_or])<;>omega):zp1=0∨gp1≠bp0))⟩)) ?_
 rintro E w5 ⟨_,F,G,rfl,z,d,K5⟩
 have aM:=K5.size
 have aA:=z.lth
 refine qm rfl<|qd 13 rfl<|qn 3 rfl ?_
 refine qv rfl (Hw (k:=.i64) (a:=2) (b:=p2) rfl rfl)<|qv rfl (Zd (k:=.i64) (a:=Qc (2*p2)) (b:=1) rfl rfl)<|qn 2 rfl<|qv rfl (Vx (k:=.i64) (a:=p4) (b:=1) rfl rfl)<|qn 2 rfl ?_
 refine qv rfl (Vx (k:=.i64) (a:=p5) (b:=x3.2) rfl rfl) ?_
 have aq:=(P.kz K5 (Qb ((by have:=M.o;have:=j.o;have:=t.o;have:=u.o;have:=y.o;have:=D.o;(try simp only[Zh,Vg,Vm,Yo,Mz,or_true,true_or,and_true,List.mem_cons,List.mem_append,Xt,List.not_mem_nil,or_false,false_or,not_or,ne_eq,List.nil_append,List.cons_append,true_and,and_true,false_and,and_false,not_true_eq_false,not_false_eq_true,or_true,true_or])<;>omega):zp1=0∨gp1≠bp0)))
 have ar:=(Q.kz K5 (Qb ((Qb j.o):zp0_7=0∨zp1=0∨gp0_7≠gp1)))
 have au:=(R.kz K5 (Qb ((Qb t.o):zp0_8=0∨zp1=0∨gp0_8≠gp1)))
 have av:=(S.kz K5 (Qb ((Qb u.o):zp0_9=0∨zp1=0∨gp0_9≠gp1)))
 have aw:=(T.kz K5 (Qb ((Qb y.o):zp0_10=0∨zp1=0∨gp0_10≠gp1)))
 obtain⟨x6,ax,hm⟩:=Qd hm
 refine qe rfl (eC Qf5 rfl (ih p0 x5 (Qc ((Qc (2*p2))+1)) a4 (Qc (p4-1)) (Qc (p5-x3.2)) _ _ _ _ _ _ _ _ _ _ _ _ _ _ _ _ _ E F G _ ax _ aq ar au av aw z ⟨(Qb (Qp (A:=(fun x=>zp0_7=0∨x≠gp0_7)) d (Qb j.o) (fun x hx=>(Qb U.o))))⟩ ⟨(Qb (Qp (A:=(fun x=>zp0_8=0∨x≠gp0_8)) d (Qb t.o) (fun x hx=>(Qb V.o))))⟩ ⟨(Qb (Qp (A:=(fun x=>zp0_9=0∨x≠gp0_9)) d (Qb u.o) (fun x hx=>(Qb W.o))))⟩ ⟨(Qb (Qp (A:=(fun x=>zp0_10=0∨x≠gp0_10)) d (Qb y.o) (fun x hx=>(Qb X.o))))⟩ ⟨(Qb (Qo (b:=bp0) d (by have:=M.o;have:=j.o;have:=t.o;have:=u.o;have:=y.o;have:=D.o;(try simp only[Zh,Vg,Vm,Yo,Mz,or_true,true_or,and_true,List.mem_cons,List.mem_append,Xt,List.not_mem_nil,or_false,false_or,not_or,ne_eq,List.nil_append,List.cons_append,true_and,and_true,false_and,and_false,not_true_eq_false,not_false_eq_true,or_true,true_or])<;>omega)))⟩)) ?_
 rintro H w6 ⟨_,I,J,rfl,B,K,K6⟩
 have aN:=K6.size
 have aB:=B.lth
 refine qm rfl<|Qa<|Qq ?_
 have ay:=(((ag.kz K4).kz K5 (Qb (Qf:zp1=0∨(gp1=gp1∧zp1≠0)∨w.heap.size≤gp1))).kz K6 (Qb (Qp (A:=(fun x=>(x=gp1∧zp1≠0)∨w.heap.size≤x)) d Qf)))
 cases hm
 exact⟨_,_,rfl,Qz rfl (Qn rfl),H,I,J,rfl,B,⟨(Qp (A:=(fun x=>(x=gp1∧zp1≠0)∨w.heap.size≤x)) K (Qp (A:=(fun x=>(x=gp1∧zp1≠0)∨w.heap.size≤x)) d Qf))⟩,ay⟩
theorem Qsy (p0:Xc)(p1:List Int)(p2:Int)(p3:Int)(p4:Int)(p5:Int)(bp0:Nat)(vp0_7:Value)(zp0_7 gp0_7 op0_7:Nat)(vp0_8:Value)(zp0_8 gp0_8 op0_8:Nat)(vp0_9:Value)(zp0_9 gp0_9 op0_9:Nat)(vp0_10:Value)(zp0_10 gp0_10 op0_10:Nat)(vp1:Value)(zp1 gp1:Nat)(r:List Int)(hm:Qdk p0 p1 p2 p3 p4 p5=some r)(w:World)(hbp0:Bx w bp0 116 (Xc.cs p0 vp0_7 vp0_8 vp0_9 vp0_10))(b:Rd w zp0_7 gp0_7 op0_7 1 vp0_7 (p0.rows.a0.map ic))(c:Rd w zp0_8 gp0_8 op0_8 1 vp0_8 (p0.rows.a1.map ic))(d:Rd w zp0_9 gp0_9 op0_9 1 vp0_9 (p0.rows.a2.map ic))(a:Rd w zp0_10 gp0_10 op0_10 1 vp0_10 (p0.rows.a3.map ic))(f:Qg w zp1 gp1 3 1 vp1 (p1.map ic))(g:Xd (zp1=0∨zp0_7=0∨gp1≠gp0_7))(h:Xd (zp1=0∨zp0_8=0∨gp1≠gp0_8))(i:Xd (zp1=0∨zp0_9=0∨gp1≠gp0_9))(j:Xd (zp1=0∨zp0_10=0∨gp1≠gp0_10))(k:Xd (zp1=0∨gp1≠bp0)):
 Calls Tryz.prog 34 [.pointer (some ⟨bp0,0,none⟩),vp1,.int .i64 p2,.int .i64 p3,.int .i64 p4,.int .i64 p5].toArray w fun e w'=>∃ v,e=.returned v∧(∃ (ur0_s:Value) (zr0_s:Nat) (gr0_s:Nat),v=ur0_s∧Qg w' zr0_s gr0_s 3 1 ur0_s (r.map ic)∧Xd (zr0_s=0∨(gr0_s=gp1∧zp1≠0)∨w.heap.size≤gr0_s)∧Kz [(zp1,gp1)] w w'):=
 Xe7 Xb p0 p1 p2 p3 p4 p5 bp0 vp0_7 zp0_7 gp0_7 op0_7 vp0_8 zp0_8 gp0_8 op0_8 vp0_9 zp0_9 gp0_9 op0_9 vp0_10 zp0_10 gp0_10 op0_10 vp1 zp1 gp1 r hm w hbp0 b c d a f g h i j k
theorem Qsw {p0 p1 r}(hm:Qgo p0 p1=some r){w:World}:
 Calls Tryz.prog 24 [.agg (Qj.cs p0).toArray,.int .i64 p1].toArray w fun e w'=>∃ v,e=.returned v∧(∃ ur0_s zr0_s gr0_s,v=.tuple [ur0_s,.int .i64 r.2].toArray∧Qg w' zr0_s gr0_s 3 1 ur0_s (r.1.map ic)∧Xd (zr0_s=0∨w.heap.size≤gr0_s)∧Gr w w'):=by
 unfold Qgo at hm
 refine Xi 30 Tryz.func24 rfl rfl rfl<|qs 3 rfl<|qe rfl (Xo (cs:=Qj.cs p0) rfl rfl) ?_
 rintro _ w1 ⟨b1,rfl,ad,o,G1⟩
 have z1:=G1.size
 have ar:=o.lt
 refine qn 2 rfl<|qd 8 rfl<|qv rfl (Xa Zq rfl o rfl)<|qm rfl ?_
 refine Cj 23 Tryz.func45 rfl rfl rfl Qq0 rfl rfl rfl rfl rfl<|qs 3 rfl<|qe rfl (Xo (cs:=Qj.cs p0) rfl rfl) ?_
 rintro _ w2 ⟨b2,rfl,ae,n,G2⟩
 have z3:=G2.size
 have au:=n.lt
 refine qn 2 rfl<|Qa<|Qe<|qs 3 rfl<|qv rfl (Xa Zq rfl n rfl) ?_
 obtain⟨x1,Q,hm⟩:=Qd hm
 refine qe rfl (eC Qa4 rfl (Oc Q)) ?_
 rintro _ w3 ⟨rfl,G3⟩
 have z5:=G3.size
 refine qm rfl<|qd 2 rfl<|qm rfl<|qv rfl (Kg (a:=x1) (b:=0) rfl rfl)<|Qa ?_
 refine Zv hm rfl (fun c1 hm=>?_) (fun c1 hm=>?_)
 · refine qs 3 rfl<|qn 3 rfl<|Qa<|Qq ?_
   refine Xz<|⟨_,_,rfl,Za rfl (Qn rfl) (Qn rfl),?_⟩
   refine qn 5 rfl<|Qa<|Qe ?_
   refine qs 2 rfl<|qm rfl<|qv rfl (Kg (a:=x1) (b:=0) rfl rfl)<|Qa<|Kx hm rfl (fun c2 hm=>?_) (fun c2 hm=>?_)
   · cases hm
   refine qs 3 rfl<|qn 3 rfl<|Qa<|Qq ?_
   refine Xz ?_
   have X6:=((((Gr.refl w).trans G1).trans G2).trans G3)
   cases hm
   exact⟨_,_,rfl,Za rfl (Qn rfl) (Qn rfl),(.slice none 0 0),0,0,rfl,(Zi _ 0 3 1),⟨.inl rfl⟩,X6⟩
 refine qu<|Qe ?_
 have X7:=((((Gr.refl w).trans G1).trans G2).trans G3)
 refine qj (β:=Bool) (rg 12 9) (fun a2=>[(20,.bool a2)]) (fun a2 wr=>(Qgp p0 p1 a2=some r)∧Kz [] w3 wr) ?_ ?_
 · refine qg 9 rfl<|qm rfl<|qv rfl (Jv (a:=p1) (b:=0) rfl rfl)<|Ji hm rfl (Qt rfl) (fun c4 hm=>?_) (fun c4 hm=>?_)
   · refine qn 6 rfl<|Qk ?_
     exact⟨rfl,true,Ql,hm,Xe⟩
   refine qm rfl<|qv rfl (Qh Wo rfl) ?_
   have R:=(n.gr G3)
   refine qv rfl (Qi (v:=.int .i64 p0.Depth) Qm rfl R rfl) ?_
   obtain⟨nn6,hnn6,hm⟩:=Qd hm
   refine qv rfl (Tf (a:=1) (b:=p0.Depth) rfl rfl hnn6)<|qv rfl (Wr (a:=p1) (b:=Xw 1 nn6) rfl rfl)<|qm rfl<|Qk ?_
   exact⟨rfl,(decide (Xw 1 nn6<p1)),Ql,hm,Xe⟩
 clear hm;rintro a2 w4 ⟨hm,K4⟩
 have z8:=K4.size
 unfold Qgp at hm
 refine Jo hm rfl (fun c3 hm=>?_) (fun c3 hm=>?_)
 · refine qs 2 rfl<|qn 2 rfl<|Qa<|Qq<|Xz ?_
   refine⟨_,_,rfl,Za rfl (Qn rfl) (Qn rfl),?_⟩
   refine qn 5 rfl<|Qa<|Qe ?_
   refine qs 2 rfl<|qm rfl<|qv rfl (Kg (a:=2) (b:=0) rfl rfl)<|Qa<|Nb rfl<|Qe ?_
   refine qg 3 rfl<|qn 3 rfl<|Qa<|Qq<|Xz ?_
   have X9:=(X7.kz K4)
   cases hm
   exact⟨_,_,rfl,Za rfl (Qn rfl) (Qn rfl),(.slice none 0 0),0,0,rfl,(Zi _ 0 3 1),⟨.inl rfl⟩,X9⟩
 refine qu<|qs 4 rfl ?_
 have S:=((n.gr G3).kz K4)
 refine qv rfl (Xa Zq rfl S rfl) ?_
 obtain⟨x3,T,hm⟩:=Qd hm
 refine qe rfl (eC Qju rfl (Qlk T)) ?_
 rintro _ w5 ⟨O,y,z,B,C,D,E,F,G,H,p,q,s,rfl,h,P,d,I,J,f,K,L,g,M,N,c,t,u,af,ag,ah,ai,aj,ak,G5⟩
 have av:=G5.size
 have al:=d.lth
 have am:=f.lth
 have an:=g.lth
 have ao:=c.lth
 have ap:=h.lt
 refine qn 2 rfl<|Qa<|Qq<|⟨_,_,rfl,Za rfl (Qn rfl) (Qn rfl),?_⟩
 refine qn 5 rfl<|Qa<|Qe ?_
 refine qs 2 rfl<|qm rfl<|qv rfl (Kg (a:=0) (b:=0) rfl rfl)<|Qa<|Ty rfl<|Jn ?_
 refine Xl<|qs 8 rfl<|qn 2 rfl ?_
 obtain⟨x4,U,hm⟩:=Qd hm
 refine qe rfl (eC Qjv rfl (Qlt U h (Qg.rd d) (Qg.rd f) (Qg.rd g) (Qg.rd c))) ?_
 rintro _ w6 ⟨rfl,G6⟩
 have aw:=G6.size
 refine qn 5 rfl<|Qa<|Qe ?_
 refine qg 7 rfl<|qm rfl<|qv rfl (Qh Wo rfl) ?_
 have V:=(((((o.gr G2).gr G3).kz K4).gr G5).gr G6)
 refine qv rfl (Qi (v:=.int .i64 p0.Depth) Qm rfl V rfl)<|qm rfl ?_
 have W:=(h.gr G6)
 have X:=(d.gr G6)
 have Y:=(f.gr G6)
 have Z:=(g.gr G6)
 have aa:=(c.gr G6)
 obtain⟨x5,ab,hm⟩:=Qd hm
 refine qe rfl (eC Qf5 rfl (Qsy x3 ([]:List Int) 1 0 p0.Depth x4.2 _ _ _ _ _ _ _ _ _ _ _ _ _ _ _ _ _ (.slice none 0 0) 0 0 _ ab _ W (Qg.rd X) (Qg.rd Y) (Qg.rd Z) (Qg.rd aa) (Zi _ 0 3 1) ⟨Qf⟩ ⟨Qf⟩ ⟨Qf⟩ ⟨Qf⟩ ⟨Qf⟩)) ?_
 rintro j w7 ⟨_,k,l,rfl,i,m,K7⟩
 have ax:=K7.size
 have aq:=i.lth
 refine qn 2 rfl<|Qa<|Qq ?_
 have ac:=((((X7.kz K4).trans G5).trans G6).kz K7)
 cases hm
 exact⟨_,_,rfl,Za rfl (Qn rfl) (Qn rfl),j,k,l,rfl,i,⟨(Qp (A:=(fun x=>w.heap.size≤x)) m (.inl rfl))⟩,ac⟩
end Go.Proofs.YtopkalcefepilaaGreat.Mx
