/- Walks that follow mirrors: Gh. Printed by mx.py. -/
import Derived.Test.YtopkalcefepilaaGreatGa
import Derived.Test.YtopkalcefepilaaGreatZd
set_option linter.unusedVariables false
set_option linter.unusedSimpArgs false
set_option maxRecDepth 100000
set_option maxHeartbeats 2000000
namespace Go.Proofs.YtopkalcefepilaaGreat.Mx
open Go Go.RowKit Go.Sx
theorem Qio:En Tryz.prog 45:=fun _ _=>by kernel_rfl
theorem Qis:En Tryz.prog 59:=fun _ _=>by kernel_rfl
theorem Qe7:En Tryz.prog 31:=fun _ _=>by kernel_rfl
theorem Qq3:En Tryz.prog 56:=fun _ _=>by kernel_rfl
theorem Qq4:En Tryz.prog 57:=fun _ _=>by kernel_rfl
theorem Qp3:En Tryz.prog 100:=fun _ _=>by kernel_rfl
theorem Qe8:En Tryz.prog 33:=fun _ _=>by kernel_rfl
theorem Gi:Wt Tryz.prog 30 1 3 1 [.int .i64 0]:=La Tryz.underlying30 (Qe).siz Dm rfl rfl (by kernel_rfl)
theorem Qao:En Tryz.prog 34:=fun _ _=>by kernel_rfl
theorem Qtv {p0 r}(hm:Qfm p0=some r){w:World}:
 Calls Tryz.prog 56 [.int .i64 p0].toArray w fun e w'=>∃ v,e=.returned v∧(∃ bc0,v=.func (.func 100) #[] [.pointer (some ⟨bc0,0,none⟩)].toArray∧Bx w' bc0 3 ([.int .i64 r])∧(w.heap.size≤bc0)∧Gr w w'):=by
 unfold Qfm at hm
 refine Xj 4 Tryz.func56 rfl rfl rfl<|qs 2 rfl<|qe rfl (Xq (cs:=[.int .i64 p0]) rfl rfl) ?_
 rintro _ w1 ⟨b1,rfl,b,a,G1⟩
 have z1:=G1.size
 have c:=a.lt
 refine qm rfl<|qd 2 rfl<|qv rfl (Tx rfl rfl)<|qm rfl<|Qa ?_
 refine Qp ?_
 have X3:=((Gr.refl w).trans G1)
 cases hm
 exact⟨_,_,rfl,Qr rfl (Ql rfl),b1,rfl,a,by omega,X3⟩
theorem Qtu (p1:Int)(bp1:Nat)(xs:List Int)(hm:Qfn p1=some xs)(w0:World)(hbp1:Bx w0 bp1 3 ([.int .i64 p1])):
 IT Tryz.prog 100 [.pointer (some ⟨bp1,0,none⟩)] (xs.map (fun(x:Int)=>([.int .i64 x]:List Value))) ([bp1]) w0:=by
 intro l J Jx w fp hG hJ hJx hcap h0 hY
 have c1:=Bx.gr hbp1 hG
 have p:=c1.lt
 have j:bp1∉fp:=hcap _ (by simp)
 have hd:=Qam xs
 unfold Qfn at hm
 refine Xj 14 Tryz.func100 rfl rfl rfl<|qs 1 rfl<|qm rfl<|Qa<|Xc<|Zv (α:=Nat × Int × Nat × List Nat × List Int) (rg 3 11) (fun⟨n1,a2,kk,fpl,rl⟩=>[(3,.int .i64 a2)]) (fun⟨n1,a2,kk,fpl,rl⟩ wr=>(Qs (Qc7 p1) n1 a2=some rl)∧Dr xs kk rl∧J kk fpl wr∧(∀ c∈fpl,c∈fp∨w.heap.size≤c)∧Kp fp w wr∧Bx wr bp1 3 ([.int .i64 p1])∧bp1∉fpl∧True) (fun⟨n1,a2,kk,fpl,rl⟩=>n1) ⟨Qy,0,0,fp,xs⟩ ?_ ?_ ?_
 · exact Qi
 · exact⟨hm,hd,h0,(fun c hc=>Or.inl hc),(Kp.refl fp w),c1,j,trivial⟩
 clear hm;rintro⟨n1,a2,g,fpl1,rl1⟩ w1 ⟨hm,dl1,JLw1,sl1,KLw1,d,e,-⟩
 have z4:=KLw1.size
 have q:=d.lt
 have hb:=Zu hm;clear hm;obtain⟨n1,rfl,hm⟩:=hb
 generalize h:Qs (Qc7 p1) n1=o at hm
 unfold Qc7 at hm
 try dsimp only at hm
 refine Qh<|qs 8 rfl<|qm rfl<|qv rfl (Qf (v:=.int .i64 p1) Qe rfl d rfl)<|qv rfl (Yr (a:=a2) (b:=p1) rfl rfl)<|Jo hm rfl (Qt rfl) (fun c1 hm=>?_) (fun c1 hm=>?_)
 · refine qn 4 rfl<|Qa<|Dj rfl<|Zd ?_
   refine Xh<|Xh<|Zc ?_
   have he:=Option.some.inj hm
   have hl:=Dr.last (c:=(fun(x:Int)=>([.int .i64 x]:List Value))) dl1 he.symm
   refine⟨_,_,rfl,Ta rfl,KLw1,.inl ⟨_,sl1,?_⟩⟩
   rw[←hl];exact JLw1
 refine qn 2 rfl ?_
 obtain⟨rr6,hm,he6⟩:=Ei hm
 have i:=Dr.at dl1 he6
 have hd6:=Dr.next dl1 he6
 refine qe rfl (Cz rfl rfl (hY _ _ _ _ (Tp i) JLw1 KLw1 sl1)) ?_
 rintro _ w2 ⟨bb,rfl,KF6,f,hg6,hJb⟩
 have z7:=KF6.size
 have sub6:∀ c∈f,c∈fp∨w.heap.size≤c:=Tw sl1 hg6 (by omega)
 have m:=Jt hg6 e (by omega)
 cases bb
 · have Jy6:Jx (g+1) f w2:=hJb
   refine qm rfl<|Qa<|Dj rfl<|Zd<|Xh<|Xh<|Zc ?_
   have KI9:Kp fp w w2:=(KLw1.trans KF6 sl1)
   exact⟨_,_,rfl,Ta rfl,KI9,.inr ⟨_,_,sub6,(by rw[List.length_map];exact(List.getElem?_eq_some_iff.1 i).1),Jy6⟩⟩
 have Jy6:J (g+1) f w2:=hJb
 refine qm rfl<|Qa<|Nt rfl<|qu<|Qh<|Xc ?_
 refine Jb<|Xi<|Xa<|qg 3 rfl<|qm rfl<|qv rfl (Xn (k:=.i64) (a:=a2) (b:=1) rfl rfl)<|qm rfl ?_
 refine Qj ?_
 have KI10:Kp fp w w2:=(KLw1.trans KF6 sl1)
 have n:=(Bx.kp d KF6 e)
 subst h
 exact⟨rfl,⟨n1,Qb (a2+1),(g+1),f,rr6⟩,Qi,⟨hm,hd6,Jy6,sub6,KI10,n,m,trivial⟩,Nat.lt_succ_self _⟩
theorem Qtr {p0 p1 bp0 vp0_7 zp0_7 gp0_7 op0_7 vp0_8 zp0_8 gp0_8 op0_8 vp0_9 zp0_9 gp0_9 op0_9 vp0_10 zp0_10 gp0_10 op0_10 r}(hm:Qfi p0 p1=some r){w:World}(hbp0:Bx w bp0 116 (Qz.cs p0 vp0_7 vp0_8 vp0_9 vp0_10))(f:Rd w zp0_7 gp0_7 op0_7 1 vp0_7 (p0.rows.a0.map ic))(g:Rd w zp0_8 gp0_8 op0_8 1 vp0_8 (p0.rows.a1.map ic))(h:Rd w zp0_9 gp0_9 op0_9 1 vp0_9 (p0.rows.a2.map ic))(d:Rd w zp0_10 gp0_10 op0_10 1 vp0_10 (p0.rows.a3.map ic)):
 Calls Tryz.prog 57 [.pointer (some ⟨bp0,0,none⟩),.int .i64 p1].toArray w fun e w'=>∃ v,e=.returned v∧(v=.int .i64 r∧Gr w w'):=by
 have t:=f.lth
 have x:=g.lth
 have y:=h.lth
 have z:=d.lth
 have A:=hbp0.lt
 unfold Qfi at hm
 refine Xj 17 Tryz.func57 rfl rfl rfl<|qs 1 rfl<|qm rfl<|Qa<|Qh<|Qh ?_
 refine qg 2 rfl<|qm rfl<|qv rfl (Xv (a:=p1) (b:=0) rfl rfl)<|Qa<|Zq hm rfl (fun c1 hm=>?_) (fun c1 hm=>?_)
 · refine qs 1 rfl<|qm rfl<|qb ?_
   cases hm
   exact⟨_,_,rfl,Qr rfl (Ql rfl),rfl,(Gr.refl w)⟩
 refine qu<|qs 11 rfl<|qn 2 rfl<|qv rfl (Dl rfl rfl) ?_
 refine qv rfl (Qg Ma rfl)<|qv rfl (Qg Ji rfl)<|qv rfl (Qf (v:=.int .i64 p0.s.Depth) Qe rfl hbp0 rfl) ?_
 obtain⟨x1,p,hm⟩:=Qc hm
 refine qe rfl (eC Qaq rfl (Qfg p hbp0 f g h d)) ?_
 rintro j w1 ⟨_,k,l,m,rfl,c,n,G1⟩
 have z6:=G1.size
 have B:=c.lth
 refine qm rfl ?_
 obtain⟨y2,o,hm⟩:=Qc hm
 refine qv rfl (Jl (i:=p1) Tryz.underlying30 (Qe).siz rfl c rfl o)<|qv rfl (Zt (q:=0) (u:=.int .i64 y2) Qe rfl c o (by first|rfl|omega) rfl)<|qm rfl<|Qa<|Qp ?_
 have X8:=((Gr.refl w).trans G1)
 cases hm
 exact⟨_,_,rfl,Qr rfl (Ql rfl),rfl,X8⟩
theorem Qtm {t d bp0_0 bp1_0 vp1_0_7 zp1_0_7 gp1_0_7 op1_0_7 vp1_0_8 zp1_0_8 gp1_0_8 op1_0_8 vp1_0_9 zp1_0_9 gp1_0_9 op1_0_9 vp1_0_10 zp1_0_10 gp1_0_10 op1_0_10 r}(hm:Qfb t d=some r){w:World}(hbp0_0:Bx w bp0_0 3 ([.int .i64 t]))(hbp1_0:Bx w bp1_0 116 (Qz.cs d vp1_0_7 vp1_0_8 vp1_0_9 vp1_0_10))(j:Rd w zp1_0_7 gp1_0_7 op1_0_7 1 vp1_0_7 (d.rows.a0.map ic))(m:Rd w zp1_0_8 gp1_0_8 op1_0_8 1 vp1_0_8 (d.rows.a1.map ic))(n:Rd w zp1_0_9 gp1_0_9 op1_0_9 1 vp1_0_9 (d.rows.a2.map ic))(f:Rd w zp1_0_10 gp1_0_10 op1_0_10 1 vp1_0_10 (d.rows.a3.map ic)):
 Calls Tryz.prog 55 [.func (.func 100) [].toArray [.pointer (some ⟨bp0_0,0,none⟩)].toArray,.func (.func 57) [.pointer (some ⟨bp1_0,0,none⟩)].toArray [].toArray].toArray w fun e w'=>∃ v,e=.returned v∧(v=.tuple [.int .i64 r.1,.int .i64 r.2].toArray∧Gr w w'):=by
 have bc:=hbp0_0.lt
 have u:=j.lth
 have y:=m.lth
 have z:=n.lth
 have A:=f.lth
 have bd:=hbp1_0.lt
 unfold Qfb at hm
 refine Xj 24 Tryz.func55 rfl rfl rfl<|qs 3 rfl<|qe rfl (Xq rfl rfl) ?_
 rintro _ w1 ⟨b1,rfl,aQ,N,G1⟩
 have z7:=G1.size
 have be:=N.lt
 refine qe rfl (Zz (cs:=[.int .i64 0]) Dm rfl) ?_
 rintro _ w2 ⟨b2,rfl,aR,O,G2⟩
 have z9:=G2.size
 have aS:=O.lt
 refine qe rfl (Zz (cs:=[.int .i64 0]) Dm rfl) ?_
 rintro _ w3 ⟨b3,rfl,aT,P,G3⟩
 have bf:=G3.size
 have aU:=P.lt
 refine qd 2 rfl<|qe rfl (Zz (cs:=[.bool false]) Qnu rfl) ?_
 rintro _ w4 ⟨b4,rfl,aV,Q,G4⟩
 have bg:=G4.size
 have aW:=Q.lt
 refine qe rfl (Zs (cs':=[.bool true]) (He).siz rfl rfl rfl Q rfl rfl) ?_
 rintro _ w5 ⟨ag,M5⟩
 have bh:=M5.size
 refine Qa<|Qh<|qs 1 rfl<|qm rfl<|Qa<|Xc ?_
 have Y1:=Gr.trans (Gr.trans (Gr.trans G1 G2) G3) G4
 have ah:=((hbp0_0.gr Y1).md M5)
 obtain⟨l1,ai,hm⟩:=Qc hm
 have R:=(((Gr.refl w).trans Y1).md M5)
 have aj:=((j.gr Y1).md M5 (Xs u))
 have ak:=((m.gr Y1).md M5 (Xs y))
 have al:=((n.gr Y1).md M5 (Xs z))
 have am:=((f.gr Y1).md M5 (Xs A))
 have an:=((hbp1_0.gr Y1).md M5)
 have Y2:=Gr.trans (Gr.trans G2 G3) G4
 have ao:=((N.gr Y2).md M5)
 have Y3:=Gr.trans G3 G4
 have ap:=((O.gr Y3).md M5)
 have aq:=((P.gr G4).md M5)
 refine Oy (gf:=100) rfl Qp3 (Qtu t _ _ ai _ ah) (by intro x hx;obtain⟨a,_,rfl⟩:=List.mem_map.1 hx;rfl) rfl _ (fun _ _ _ _=>False) ([b2,b3,b4]) (Bk (α:=Int × Int × Bool) (fun⟨a5,a6,a7⟩ rk=>Ku (Qbn d) Qbl (List.drop rk l1) (a5,a6,a7)=some r) (fun⟨a5,a6,a7⟩=>([b2,b3,b4])) (fun⟨a5,a6,a7⟩ W=>Bx W b2 3 ([.int .i64 a5])∧Bx W b3 3 ([.int .i64 a6])∧Bx W b4 4 ([.bool a7])∧True) (by rintro⟨a5,a6,a7⟩ W ⟨F0,F1,F2,_⟩ b hb;have q0:=F0.lt;have q1:=F1.lt;have q2:=F2.lt;replace hb:b∈([b2,b3,b4]):=hb;simp only[List.mem_cons,List.mem_append,Xt,List.not_mem_nil,or_false,false_or,not_or,ne_eq,List.nil_append,List.cons_append,true_and,and_true,false_and,and_false,not_true_eq_false,not_false_eq_true,or_true,true_or] at hb;omega) (by rintro⟨a5,a6,a7⟩ W W' ⟨F0,F1,F2,_⟩ E hs;replace hs:∀ b∈([b2,b3,b4]),W'.heap[b]? = W.heap[b]? := hs;exact⟨(hs _ (by simp)).trans F0,(hs _ (by simp)).trans F1,(hs _ (by simp)).trans F2,trivial⟩)) (fun _=>Qgf) (by intro b hb;simp only[List.mem_cons,List.mem_append,Xt,List.not_mem_nil,or_false,false_or,not_or,ne_eq,List.nil_append,List.cons_append,true_and,and_true,false_and,and_false,not_true_eq_false,not_false_eq_true,or_true,true_or] at hb ⊢;omega) ⟨⟨0,0,true⟩,hm,rfl,ap,aq,ag,trivial⟩ ?_ ?_ ?_
 · rintro l rk x fp w6 hl hx _ K6 hF hln Xy
   clear hm
   obtain⟨e8,hxe,rfl⟩:=map_some hx
   have o:Kz [(1,b2),(1,b3),(1,b4)] w5 w6:=Gv K6 (by intro k hk;simp only[Ze,and_true,List.mem_cons,List.mem_append,Xt,List.not_mem_nil,or_false,false_or,not_or,ne_eq,List.nil_append,List.cons_append,true_and,and_true,false_and,and_false,not_true_eq_false,not_false_eq_true,or_true,true_or] at hk ⊢;omega)
   have bi:=K6.size
   refine qg 1 rfl<|qm rfl<|Qj<|⟨rfl,(Gr.refl _),?_⟩
   rintro w7 M7 ⟨⟨a5,a6,a7⟩,hm,rfl,g,p,i,-⟩
   have bj:=M7.size
   have aX:=g.lt
   have aY:=p.lt
   have aZ:=i.lt
   replace hm:=Am hm hxe
   generalize hnx1:Ku (Qbn d) Qbl (List.drop (rk+1) l1)=ar at hm
   unfold Qbn at hm
   try dsimp only at hm
   refine Xc<|qs 4 rfl ?_
   have au:=((ao.kz o).md M7)
   refine qv rfl (Qf Qki rfl au rfl)<|qm rfl ?_
   have av:=((an.kz o).md M7)
   have aw:=((aj.kz o (Sv (Xs (b:=b2) u) (Xs (b:=b3) u) (Xs (b:=b4) u))).md M7 (Xs u))
   have ax:=((ak.kz o (Sv (Xs (b:=b2) y) (Xs (b:=b3) y) (Xs (b:=b4) y))).md M7 (Xs y))
   have ay:=((al.kz o (Sv (Xs (b:=b2) z) (Xs (b:=b3) z) (Xs (b:=b4) z))).md M7 (Xs z))
   have az:=((am.kz o (Sv (Xs (b:=b2) A) (Xs (b:=b3) A) (Xs (b:=b4) A))).md M7 (Xs A))
   obtain⟨x9,aA,hm⟩:=Qc hm
   refine qe rfl (Gp Qq4 rfl rfl (Qtr aA av aw ax ay az)) ?_
   rintro _ w8 ⟨rfl,G8⟩
   have bk:=G8.size
   refine qm rfl<|Qa ?_
   have bm:=(((R.kz o).md M7).trans G8)
   refine qj (β:=Bool) (rg 14 6) (fun G=>[(19,.bool G)]) (fun G wr=>(Qbm a5 a6 a7 ar e8 x9 G=some r)∧Kz [] w8 wr) ?_ ?_
   · refine qg 6 rfl ?_
     have aB:=(i.gr G8)
     refine qv rfl (Qf (v:=.bool a7) He rfl aB rfl)<|Hm hm rfl (Qt rfl) (fun c2 hm=>?_) (fun c2 hm=>?_)
     · refine qn 4 rfl<|Qj ?_
       exact⟨rfl,true,Qi,hm,Qw⟩
     refine qm rfl ?_
     have aC:=(g.gr G8)
     refine qv rfl (Qf (v:=.int .i64 a5) Qe rfl aC rfl)<|qv rfl (Ky (a:=x9) (b:=a5) rfl rfl)<|qm rfl<|Qj ?_
     exact⟨rfl,(decide (a5<x9)),Qi,hm,Qw⟩
   clear hm;rintro G w9 ⟨hm,K9⟩
   have bo:=K9.size
   unfold Qbm at hm
   refine Wz hm rfl (fun c1 hm=>?_) (fun c1 hm=>?_)
   · refine Jb<|Xi ?_
     have aD:=((g.gr G8).kz K9)
     have aE:=((p.gr G8).kz K9)
     have aF:=((i.gr G8).kz K9)
     have K_49:Kz [(1,b2),(1,b3),(1,b4)] w7 w9:=((Kz.gr (Kz.refl _ _) G8).kz K9)
     have Kq49:Kp ([b2,b3,b4]) w7 w9:=Rj K_49 (by intro k hk;simp only[Ze,and_true,List.mem_cons,List.mem_append,Xt,List.not_mem_nil,or_false,false_or,not_or,ne_eq,List.nil_append,List.cons_append,true_and,and_true,false_and,and_false,not_true_eq_false,not_false_eq_true,or_true,true_or] at hk ⊢;omega)
     subst hnx1
     exact⟨Kq49,([b2,b3,b4]),(by intro c hc;simp only[List.mem_cons,List.mem_append,Xt,List.not_mem_nil,or_false,false_or,not_or,ne_eq,List.nil_append,List.cons_append,true_and,and_true,false_and,and_false,not_true_eq_false,not_false_eq_true,or_true,true_or] at hc ⊢;omega),⟨⟨a5,a6,a7⟩,hm,rfl,aD,aE,aF,trivial⟩⟩
   refine qg 5 rfl<|qn 2 rfl ?_
   have aG:=((g.gr G8).kz K9)
   refine qe rfl (Zs (cs':=[.int .i64 x9]) (Qe).siz rfl rfl rfl aG rfl rfl) ?_
   rintro _ bp ⟨S,H⟩
   have bq:=H.size
   have aH:=(((p.gr G8).kz K9).md H)
   refine qe rfl (Zs (cs':=[.int .i64 e8]) (Qe).siz rfl rfl rfl aH rfl rfl) ?_
   rintro _ br ⟨T,I⟩
   have bs:=I.size
   have aI:=((((i.gr G8).kz K9).md H).md I)
   refine qe rfl (Zs (cs':=[.bool false]) (He).siz rfl rfl rfl aI rfl rfl) ?_
   rintro _ U ⟨V,J⟩
   have bu:=J.size
   refine Qj<|Xi ?_
   have aJ:=((S.md I).md J)
   have aK:=(T.md J)
   have K_46:Kz [(1,b2),(1,b3),(1,b4)] w7 U:=(((((Kz.gr (Kz.refl _ _) G8).kz K9).md H).md I).md J)
   have Kq46:Kp ([b2,b3,b4]) w7 U:=Rj K_46 (by intro k hk;simp only[Ze,and_true,List.mem_cons,List.mem_append,Xt,List.not_mem_nil,or_false,false_or,not_or,ne_eq,List.nil_append,List.cons_append,true_and,and_true,false_and,and_false,not_true_eq_false,not_false_eq_true,or_true,true_or] at hk ⊢;omega)
   subst hnx1
   exact⟨Kq46,([b2,b3,b4]),(by intro c hc;simp only[List.mem_cons,List.mem_append,Xt,List.not_mem_nil,or_false,false_or,not_or,ne_eq,List.nil_append,List.cons_append,true_and,and_true,false_and,and_false,not_true_eq_false,not_false_eq_true,or_true,true_or] at hc ⊢;omega),⟨⟨x9,e8,false⟩,hm,rfl,aJ,aK,V,trivial⟩⟩
 · clear hm;rintro B fp X aL C Y ⟨⟨a5,a6,a7⟩,hm,rfl,q,s,K,-⟩ Z
   replace hm:=An hm
   have aa:Kz [(1,b2),(1,b3),(1,b4)] w5 X:=Gv Z (by intro k hk;simp only[Ze,and_true,List.mem_cons,List.mem_append,Xt,List.not_mem_nil,or_false,false_or,not_or,ne_eq,List.nil_append,List.cons_append,true_and,and_true,false_and,and_false,not_true_eq_false,not_false_eq_true,or_true,true_or] at hk ⊢;omega)
   have bw:=Z.size
   have a4:=Df.lt (w:=X) C
   simp only[List.mem_cons,List.mem_append,Xt,List.not_mem_nil,or_false,false_or,not_or,ne_eq,List.nil_append,List.cons_append,true_and,and_true,false_and,and_false,not_true_eq_false,not_false_eq_true,or_true,true_or,not_and] at Y
   have a8:=q.lt
   have a9:=s.lt
   have ba:=K.lt
   unfold Qbl at hm
   try dsimp only at hm
   refine Xi<|Xa<|Qh<|dw [([b2,b3]),([b3]),([b2])] [(2,[1]),(3,[2])] (.leaf [(0,11),(1,12),(2,0),(3,0)]) ?_
   intro bx L bb
   refine Jp ?_
   have ab:=(q.gr L)
   refine dh 1 rfl rfl (fun w hS=>Qf (v:=.int .i64 a5) Qe rfl (Bx.kp ab hS) rfl) ?_
   have ac:=(s.gr L)
   refine dh 2 rfl rfl (fun w hS=>Qf (v:=.int .i64 a6) Qe rfl (Bx.kp ac hS) rfl)<|qz [(1,b2)] rfl (Zs (cs':=[.int .i64 a5]) (Qe).siz rfl rfl rfl ab rfl rfl) ⟨fun _=>Qn,nofun,fun _=>Qn,trivial⟩ ?_
   rintro _ bz ⟨ad,D⟩
   have bA:=D.size
   refine kM D ?_
   have aM:=(ac.md D)
   refine qz [(1,b3)] rfl (Zs (cs':=[.int .i64 a6]) (Qe).siz rfl rfl rfl aM rfl rfl) ⟨fun _=>Qn,fun _=>Qn,nofun,trivial⟩ ?_
   rintro _ ae ⟨af,F⟩
   have bB:=F.size
   refine kM F<|Qa<|Qp ?_
   have DL67:=(Df.md (Df.md (Df.gr C L) D) F)
   have M:=Md.put (w:=ae) B (.deferred none)
   have zL67:=M.size
   have aN:=((ad.md F).md M)
   have aO:=(af.md M)
   have aP:Gr w (ae.putObj B (.deferred none)):=(((((R.kz aa).trans L).md D).md F).md M)
   cases hm
   refine⟨_,_,⟨B,rfl,DL67,rfl⟩,Jk rfl (Uy Qe rfl aN) (Uy Qe rfl aO),?_⟩
   exact⟨rfl,aP⟩
 rintro _ _ _ _ _ _ _ _ _ h _
 exact h.elim
theorem Qfl {p0 p1 bp0 vp0_7 zp0_7 gp0_7 op0_7 vp0_8 zp0_8 gp0_8 op0_8 vp0_9 zp0_9 gp0_9 op0_9 vp0_10 zp0_10 gp0_10 op0_10 r}(hm:Rw p0 p1=some r){w:World}(hbp0:Bx w bp0 116 (Qz.cs p0 vp0_7 vp0_8 vp0_9 vp0_10))(c:Rd w zp0_7 gp0_7 op0_7 1 vp0_7 (p0.rows.a0.map ic))(d:Rd w zp0_8 gp0_8 op0_8 1 vp0_8 (p0.rows.a1.map ic))(f:Rd w zp0_9 gp0_9 op0_9 1 vp0_9 (p0.rows.a2.map ic))(b:Rd w zp0_10 gp0_10 op0_10 1 vp0_10 (p0.rows.a3.map ic)):
 Calls Tryz.prog 33 [.pointer (some ⟨bp0,0,none⟩),.int .i64 p1].toArray w fun e w'=>∃ v,e=.returned v∧(v=.tuple [.int .i64 r.1,.int .i64 r.2].toArray∧Gr w w'):=by
 have o:=c.lth
 have p:=d.lth
 have q:=f.lth
 have s:=b.lth
 have t:=hbp0.lt
 unfold Rw at hm
 refine Xj 13 Tryz.func33 rfl rfl rfl<|qs 2 rfl<|qn 2 rfl<|Qa<|Qh ?_
 refine qg 9 rfl<|qm rfl ?_
 obtain⟨x1,i,hm⟩:=Qc hm
 refine qe rfl (eC Qq3 rfl (Qtv i)) ?_
 rintro _ w1 ⟨g,rfl,a,h,G1⟩
 have z6:=G1.size
 have u:=a.lt
 refine qm rfl<|qv rfl (Tx rfl rfl) ?_
 have B8:=(hbp0.gr G1)
 have B9:=(c.gr G1)
 have j:=(d.gr G1)
 have k:=(f.gr G1)
 have l:=(b.gr G1)
 obtain⟨x2,m,hm⟩:=Qc hm
 refine qe rfl (eC Qiq rfl (Qtm m a B8 B9 j k l)) ?_
 rintro _ w2 ⟨rfl,G2⟩
 have x:=G2.size
 refine qn 4 rfl<|Qa<|Qp ?_
 have n:=(((Gr.refl w).trans G1).trans G2)
 cases hm
 exact⟨_,_,rfl,Jk rfl (Ql rfl) (Ql rfl),rfl,n⟩
theorem Qtj {p0 p1 r}(hm:Qf9 p0 p1=some r){w:World}:
 Calls Tryz.prog 46 [.agg (Qo.cs p0).toArray,.int .i64 p1].toArray w fun e w'=>∃ v,e=.returned v∧(v=.tuple [.int .i64 r.1,.int .i64 r.2].toArray∧Gr w w'):=by
 unfold Qf9 at hm
 refine Xj 26 Tryz.func46 rfl rfl rfl<|qs 3 rfl<|qe rfl (Xq (cs:=Qo.cs p0) rfl rfl) ?_
 rintro _ w1 ⟨b1,rfl,P,G,G1⟩
 have z1:=G1.size
 have ac:=G.lt
 refine qn 2 rfl<|qd 8 rfl<|qv rfl (Xm Zj rfl G rfl)<|qm rfl ?_
 refine Qg8 23 Tryz.func45 rfl rfl rfl Qio rfl rfl rfl rfl rfl<|qs 3 rfl<|qe rfl (Xq (cs:=Qo.cs p0) rfl rfl) ?_
 rintro _ w2 ⟨b2,rfl,Q,i,G2⟩
 have z3:=G2.size
 have ad:=i.lt
 refine qn 2 rfl<|Qa<|Qh<|qs 3 rfl<|qv rfl (Xm Zj rfl i rfl) ?_
 obtain⟨x1,J,hm⟩:=Qc hm
 refine qe rfl (eC Qis rfl (Qhj J)) ?_
 rintro _ w3 ⟨rfl,G3⟩
 have z5:=G3.size
 refine qm rfl<|qd 2 rfl<|qm rfl<|qv rfl (Ke (a:=x1) (b:=0) rfl rfl)<|Qa ?_
 refine Zq hm rfl (fun c1 hm=>?_) (fun c1 hm=>?_)
 · refine qs 3 rfl<|qn 3 rfl<|Qa<|Qp ?_
   refine Xp<|⟨_,_,rfl,Jk rfl (Ql rfl) (Ql rfl),?_⟩
   refine qn 5 rfl<|Qa<|Qh ?_
   refine qs 2 rfl<|qm rfl<|qv rfl (Ke (a:=x1) (b:=0) rfl rfl)<|Qa<|Zy hm rfl (fun c2 hm=>?_) (fun c2 hm=>?_)
   · cases hm
   refine qs 3 rfl<|qn 3 rfl<|Qa<|Qp ?_
   refine Xp ?_
   have X6:=((((Gr.refl w).trans G1).trans G2).trans G3)
   cases hm
   exact⟨_,_,rfl,Jk rfl (Ql rfl) (Ql rfl),rfl,X6⟩
 refine qu<|Qh ?_
 have X7:=((((Gr.refl w).trans G1).trans G2).trans G3)
 refine qj (β:=Bool) (rg 12 9) (fun a2=>[(20,.bool a2)]) (fun a2 wr=>(Qbh p0 p1 a2=some r)∧Kz [] w3 wr) ?_ ?_
 · refine qg 9 rfl<|qm rfl<|qv rfl (Zo (a:=p1) (b:=0) rfl rfl)<|Zm hm rfl (Qt rfl) (fun c4 hm=>?_) (fun c4 hm=>?_)
   · refine qn 6 rfl<|Qj ?_
     exact⟨rfl,true,Qi,hm,Qw⟩
   refine qm rfl<|qv rfl (Qg Ji rfl) ?_
   have K:=(i.gr G3)
   refine qv rfl (Qf (v:=.int .i64 p0.Depth) Qe rfl K rfl) ?_
   obtain⟨nn5,hnn5,hm⟩:=Qc hm
   refine qv rfl (Hi (a:=1) (b:=p0.Depth) rfl rfl hnn5)<|qv rfl (Ky (a:=p1) (b:=Xr 1 nn5) rfl rfl)<|qm rfl<|Qj ?_
   exact⟨rfl,(decide (Xr 1 nn5<p1)),Qi,hm,Qw⟩
 clear hm;rintro a2 w4 ⟨hm,K4⟩
 have z8:=K4.size
 unfold Qbh at hm
 refine Zh hm rfl (fun c3 hm=>?_) (fun c3 hm=>?_)
 · refine qs 2 rfl<|qn 2 rfl<|Qa<|Qp<|Xp ?_
   refine⟨_,_,rfl,Jk rfl (Ql rfl) (Ql rfl),?_⟩
   refine qn 5 rfl<|Qa<|Qh ?_
   refine qs 2 rfl<|qm rfl<|qv rfl (Ke (a:=2) (b:=0) rfl rfl)<|Qa<|Nt rfl<|Qh ?_
   refine qg 3 rfl<|qn 3 rfl<|Qa<|Qp<|Xp ?_
   have X9:=(X7.kz K4)
   cases hm
   exact⟨_,_,rfl,Jk rfl (Ql rfl) (Ql rfl),rfl,X9⟩
 refine qu<|qs 4 rfl ?_
 have L:=((i.gr G3).kz K4)
 refine qv rfl (Xm Zj rfl L rfl) ?_
 obtain⟨x3,M,hm⟩:=Qc hm
 refine qe rfl (eC Qe7 rfl (Qfc M)) ?_
 rintro _ w5 ⟨H,o,p,q,s,t,u,x,y,z,j,k,l,rfl,h,I,d,A,B,f,C,D,g,E,F,c,m,n,R,S,T,U,V,W,G5⟩
 have ae:=G5.size
 have X:=d.lth
 have Y:=f.lth
 have Z:=g.lth
 have aa:=c.lth
 have ab:=h.lt
 refine qn 2 rfl<|Qa<|Qp<|⟨_,_,rfl,Jk rfl (Ql rfl) (Ql rfl),?_⟩
 refine qn 5 rfl<|Qa<|Qh ?_
 refine qs 2 rfl<|qm rfl<|qv rfl (Ke (a:=0) (b:=0) rfl rfl)<|Qa<|Dj rfl<|Jb ?_
 refine Xa<|qs 8 rfl<|qn 2 rfl ?_
 obtain⟨x4,N,hm⟩:=Qc hm
 refine qe rfl (eC Qe8 rfl (Qfl N h (Qk.rd d) (Qk.rd f) (Qk.rd g) (Qk.rd c))) ?_
 rintro _ w6 ⟨rfl,G6⟩
 have af:=G6.size
 refine qn 5 rfl<|Qa<|Qh ?_
 refine qg 3 rfl<|qn 3 rfl<|Qa<|Qp ?_
 have O:=(((X7.kz K4).trans G5).trans G6)
 cases hm
 exact⟨_,_,rfl,Jk rfl (Ql rfl) (Ql rfl),rfl,O⟩
theorem Qts (n:Nat):∀ (p0:Qz) (p1:List Int) (p2:Int) (p3:Int) (p4:Int) (p5:Int) (bp0:Nat) (vp0_7:Value) (zp0_7 gp0_7 op0_7:Nat) (vp0_8:Value) (zp0_8 gp0_8 op0_8:Nat) (vp0_9:Value) (zp0_9 gp0_9 op0_9:Nat) (vp0_10:Value) (zp0_10 gp0_10 op0_10:Nat) (vp1:Value) (zp1 gp1:Nat) (r:List Int) (hm:Qs Qc4 n (p0,p1,p2,p3,p4,p5)=some r) (w:World) (hbp0:Bx w bp0 116 (Qz.cs p0 vp0_7 vp0_8 vp0_9 vp0_10)) (g:Rd w zp0_7 gp0_7 op0_7 1 vp0_7 (p0.rows.a0.map ic)) (h:Rd w zp0_8 gp0_8 op0_8 1 vp0_8 (p0.rows.a1.map ic)) (i:Rd w zp0_9 gp0_9 op0_9 1 vp0_9 (p0.rows.a2.map ic)) (f:Rd w zp0_10 gp0_10 op0_10 1 vp0_10 (p0.rows.a3.map ic)) (C:Qk w zp1 gp1 3 1 vp1 (p1.map ic)) (j:Xb (zp1=0∨zp0_7=0∨gp1≠gp0_7)) (t:Xb (zp1=0∨zp0_8=0∨gp1≠gp0_8)) (u:Xb (zp1=0∨zp0_9=0∨gp1≠gp0_9)) (y:Xb (zp1=0∨zp0_10=0∨gp1≠gp0_10)) (D:Xb (zp1=0∨gp1≠bp0)),
 Calls Tryz.prog 34 [.pointer (some ⟨bp0,0,none⟩),vp1,.int .i64 p2,.int .i64 p3,.int .i64 p4,.int .i64 p5].toArray w fun e w'=>∃ v,e=.returned v∧(∃ (ur0_s:Value) (zr0_s:Nat) (gr0_s:Nat),v=ur0_s∧Qk w' zr0_s gr0_s 3 1 ur0_s (r.map ic)∧Xb (zr0_s=0∨(gr0_s=gp1∧zp1≠0)∨w.heap.size≤gr0_s)∧Kz [(zp1,gp1)] w w'):=by
 induction n with
 | zero=>intro p0 p1 p2 p3 p4 p5 bp0 vp0_7 zp0_7 gp0_7 op0_7 vp0_8 zp0_8 gp0_8 op0_8 vp0_9 zp0_9 gp0_9 op0_9 vp0_10 zp0_10 gp0_10 op0_10 vp1 zp1 gp1 r hm w hbp0 g h i f C j t u y D;cases hm
 | succ n ih=>
 intro p0 p1 p2 p3 p4 p5 bp0 vp0_7 zp0_7 gp0_7 op0_7 vp0_8 zp0_8 gp0_8 op0_8 vp0_9 zp0_9 gp0_9 op0_9 vp0_10 zp0_10 gp0_10 op0_10 vp1 zp1 gp1 r hm w hbp0 g h i f C j t u y D
 replace hm:Qfj (Qs Qc4 n) p0 p1 p2 p3 p4 p5=some r:=hm
 generalize Qs Qc4 n=L at hm ih
 have U:=g.lth
 have V:=h.lth
 have W:=i.lth
 have X:=f.lth
 have aC:=hbp0.lt
 have M:=C.lth
 unfold Qfj at hm
 refine Xj 82 Tryz.func34 rfl rfl rfl<|qs 1 rfl<|qm rfl<|Qa<|Qh<|Xc ?_
 refine qs 3 rfl<|qm rfl<|qv rfl (Xv (a:=p5) (b:=0) rfl rfl)<|qm rfl<|Qa<|Zq hm rfl (fun c1 hm=>?_) (fun c1 hm=>?_)
 · refine qs 2 rfl<|qn 2 rfl<|Qa<|Qp<|Zk ?_
   refine Xp ?_
   cases hm
   exact⟨_,_,rfl,Qr rfl (Ql rfl),vp1,zp1,gp1,rfl,C,⟨Qn⟩,(Kz.refl _ w)⟩
 refine qs 3 rfl<|qm rfl<|qv rfl (Xv (a:=p4) (b:=0) rfl rfl)<|qm rfl<|Qa<|Zq hm rfl (fun c2 hm=>?_) (fun c2 hm=>?_)
 · refine qs 12 rfl<|qn 3 rfl<|qv rfl (Dl rfl rfl)<|qv rfl (Qg Ma rfl) ?_
   refine qv rfl (Qg Ji rfl)<|qv rfl (Qf (v:=.int .i64 p0.s.Depth) Qe rfl hbp0 rfl) ?_
   obtain⟨nn1,hnn1,hm⟩:=Qc hm
   refine qv rfl (Hi (a:=1) (b:=p0.s.Depth) rfl rfl hnn1)<|qv rfl (Js (k:=.i64) (a:=p2) (b:=Xr 1 nn1) rfl rfl)<|qe rfl (Kt [Qb (p2-(Xr 1 nn1))] ic Gi rfl rfl (Vj rfl) rfl rfl rfl) ?_
   rintro aD w1 ⟨aE,az,N,G1⟩
   have z7:=G1.size
   have aF:=N.lth
   have B9:=(C.gr G1)
   obtain⟨l2,Y,hm⟩:=Qc hm
   refine qe rfl (Ha (l:=p1) (m:=[Qb (p2-(Xr 1 nn1))]) (c:=ic) Fj rfl rfl B9 (Qk.rd N) Y (by decide)) ?_
   rintro Z w2 ⟨aa,ab,ac,O,aG,ad⟩
   have aH:=O.size
   refine qm rfl<|Qa<|Qp<|Zk<|Xp ?_
   have ae:=(((Kz.refl [(zp1,gp1)] w).gr G1).ka O (Qd (Qn:zp1=0∨(gp1=gp1∧zp1≠0)∨w.heap.size≤gp1)))
   cases hm
   exact⟨_,_,rfl,Qr rfl (Ql rfl),Z,aa,ab,rfl,ac,⟨(Kc (A:=(fun x=>(x=gp1∧zp1≠0)∨w.heap.size≤x)) ad Qn)⟩,ae⟩
 refine Jb<|Xi<|Xa<|qs 10 rfl<|qn 2 rfl ?_
 refine qn 2 rfl ?_
 obtain⟨x3,af,hm⟩:=Qc hm
 refine qe rfl (eC Ad rfl (Ig af hbp0 g h i f)) ?_
 rintro _ w3 ⟨rfl,G3⟩
 have aI:=G3.size
 refine qn 5 rfl<|Qa<|Qh ?_
 refine qg 1 rfl<|qm rfl<|Qa ?_
 have ag:=((Kz.refl [(zp1,gp1)] w).gr G3)
 refine qj (β:=Int) ([15]++rg 42 19) (fun a4=>[(15,.int .i64 a4)]) (fun a4 wr=>(Qc5 p0 p1 p2 p4 p5 L x3 a4=some r)∧Kz [] w3 wr) ?_ ?_
 · refine qj (β:=Bool) (rg 42 15) (fun a7=>[(56,.bool a7)]) (fun a7 wr=>(Ii p0 p1 p2 p3 p4 p5 L x3 a7=some r)∧Kz [] w3 wr) ?_ ?_
   · refine qg 15 rfl<|qm rfl<|qv rfl (Dl rfl rfl)<|qv rfl (Qg Ma rfl)<|qv rfl (Qg Kj rfl) ?_
     have ah:=(hbp0.gr G3)
     refine qv rfl (Qf (v:=bv p0.s.Kind) Zb rfl ah rfl)<|qv rfl (Bp (p:=p0.s.Kind) (q:=1#8) rfl rfl)<|Jo hm rfl (Qt rfl) (fun c4 hm=>?_) (fun c4 hm=>?_)
     · refine qn 7 rfl ?_
       refine qm rfl<|Qj ?_
       exact⟨rfl,false,Qi,hm,Qw⟩
     refine qm rfl<|qv rfl (Xv (a:=x3.2) (b:=0) rfl rfl)<|Zm hm rfl (Qt rfl) (fun c5 hm=>?_) (fun c5 hm=>?_)
     · refine qn 5 rfl<|Qj ?_
       exact⟨rfl,true,Qi,hm,Qw⟩
     refine qn 2 rfl<|qv rfl (Xv (a:=x3.2) (b:=p5) rfl rfl)<|qn 2 rfl<|Qj ?_
     exact⟨rfl,(decide (x3.2=p5)),Qi,hm,Qw⟩
   clear hm;rintro a7 w7 ⟨hm,K7⟩
   have aJ:=K7.size
   unfold Ii at hm
   refine Wz hm rfl (fun c3 hm=>?_) (fun c3 hm=>?_)
   · refine Jb ?_
     exact⟨rfl,0,Qi,hm,(Qw.kz K7)⟩
   refine qg 5 rfl<|qn 3 rfl ?_
   have ai:=((hbp0.gr G3).kz K7)
   have aj:=((g.gr G3).kz K7)
   have ak:=((h.gr G3).kz K7)
   have al:=((i.gr G3).kz K7)
   have am:=((f.gr G3).kz K7)
   obtain⟨x8,an,hm⟩:=Qc hm
   refine qe rfl (eC Qir rfl (Qkq an ai aj ak al am)) ?_
   rintro _ w8 ⟨rfl,G8⟩
   have aK:=G8.size
   refine qm rfl<|Qj ?_
   exact⟨rfl,x8,Qi,hm,((Qw.kz K7).gr G8)⟩
 clear hm;rintro a4 w4 ⟨hm,K4⟩
 have aL:=K4.size
 unfold Qc5 at hm
 refine qs 10 rfl<|qn 3 rfl<|qv rfl (Kb (k:=.i64) (a:=2) (b:=p2) rfl rfl)<|qm rfl ?_
 refine qm rfl<|qv rfl (Js (k:=.i64) (a:=p4) (b:=1) rfl rfl)<|qm rfl ?_
 have P:=((hbp0.gr G3).kz K4)
 have Q:=((g.gr G3).kz K4)
 have R:=((h.gr G3).kz K4)
 have S:=((i.gr G3).kz K4)
 have T:=((f.gr G3).kz K4)
 have ao:=((C.gr G3).kz K4)
 obtain⟨x5,ap,hm⟩:=Qc hm
 refine qe rfl (eC Qao rfl (ih p0 p1 (Qb (2*p2)) a4 (Qb (p4-1)) x3.2 _ _ _ _ _ _ _ _ _ _ _ _ _ _ _ _ _ vp1 zp1 gp1 _ ap _ P Q R S T ao ⟨(Qd ((Qd j.o):zp1=0∨zp0_7=0∨gp1≠gp0_7))⟩ ⟨(Qd ((Qd t.o):zp1=0∨zp0_8=0∨gp1≠gp0_8))⟩ ⟨(Qd ((Qd u.o):zp1=0∨zp0_9=0∨gp1≠gp0_9))⟩ ⟨(Qd ((Qd y.o):zp1=0∨zp0_10=0∨gp1≠gp0_10))⟩ ⟨(Qd ((by have:=M.o;have:=j.o;have:=t.o;have:=u.o;have:=y.o;have:=D.o;(try simp only[Ze,Kg,Ko,Vr,Mz,or_true,true_or,and_true,List.mem_cons,List.mem_append,Xt,List.not_mem_nil,or_false,false_or,not_or,ne_eq,List.nil_append,List.cons_append,true_and,and_true,false_and,and_false,not_true_eq_false,not_false_eq_true,or_true,true_or])<;>omega):zp1=0∨gp1≠bp0))⟩)) ?_
 rintro E w5 ⟨_,F,G,rfl,z,d,K5⟩
 have aM:=K5.size
 have aA:=z.lth
 refine qm rfl<|qd 13 rfl<|qn 3 rfl ?_
 refine qv rfl (Kb (k:=.i64) (a:=2) (b:=p2) rfl rfl)<|qv rfl (Xn (k:=.i64) (a:=Qb (2*p2)) (b:=1) rfl rfl)<|qn 2 rfl<|qv rfl (Js (k:=.i64) (a:=p4) (b:=1) rfl rfl)<|qn 2 rfl ?_
 refine qv rfl (Js (k:=.i64) (a:=p5) (b:=x3.2) rfl rfl) ?_
 have aq:=(P.kz K5 (Qd ((by have:=M.o;have:=j.o;have:=t.o;have:=u.o;have:=y.o;have:=D.o;(try simp only[Ze,Kg,Ko,Vr,Mz,or_true,true_or,and_true,List.mem_cons,List.mem_append,Xt,List.not_mem_nil,or_false,false_or,not_or,ne_eq,List.nil_append,List.cons_append,true_and,and_true,false_and,and_false,not_true_eq_false,not_false_eq_true,or_true,true_or])<;>omega):zp1=0∨gp1≠bp0)))
 have ar:=(Q.kz K5 (Qd ((Qd j.o):zp0_7=0∨zp1=0∨gp0_7≠gp1)))
 have au:=(R.kz K5 (Qd ((Qd t.o):zp0_8=0∨zp1=0∨gp0_8≠gp1)))
 have av:=(S.kz K5 (Qd ((Qd u.o):zp0_9=0∨zp1=0∨gp0_9≠gp1)))
 have aw:=(T.kz K5 (Qd ((Qd y.o):zp0_10=0∨zp1=0∨gp0_10≠gp1)))
 obtain⟨x6,ax,hm⟩:=Qc hm
 refine qe rfl (eC Qao rfl (ih p0 x5 (Qb ((Qb (2*p2))+1)) a4 (Qb (p4-1)) (Qb (p5-x3.2)) _ _ _ _ _ _ _ _ _ _ _ _ _ _ _ _ _ E F G _ ax _ aq ar au av aw z ⟨(Qd (Xu (A:=(fun x=>zp0_7=0∨x≠gp0_7)) d (Qd j.o) (fun x hx=>(Qd U.o))))⟩ ⟨(Qd (Xu (A:=(fun x=>zp0_8=0∨x≠gp0_8)) d (Qd t.o) (fun x hx=>(Qd V.o))))⟩ ⟨(Qd (Xu (A:=(fun x=>zp0_9=0∨x≠gp0_9)) d (Qd u.o) (fun x hx=>(Qd W.o))))⟩ ⟨(Qd (Xu (A:=(fun x=>zp0_10=0∨x≠gp0_10)) d (Qd y.o) (fun x hx=>(Qd X.o))))⟩ ⟨(Qd (Xo (b:=bp0) d (by have:=M.o;have:=j.o;have:=t.o;have:=u.o;have:=y.o;have:=D.o;(try simp only[Ze,Kg,Ko,Vr,Mz,or_true,true_or,and_true,List.mem_cons,List.mem_append,Xt,List.not_mem_nil,or_false,false_or,not_or,ne_eq,List.nil_append,List.cons_append,true_and,and_true,false_and,and_false,not_true_eq_false,not_false_eq_true,or_true,true_or])<;>omega)))⟩)) ?_
 rintro H w6 ⟨_,I,J,rfl,B,K,K6⟩
 have aN:=K6.size
 have aB:=B.lth
 refine qm rfl<|Qa<|Qp ?_
 have ay:=(((ag.kz K4).kz K5 (Qd (Qn:zp1=0∨(gp1=gp1∧zp1≠0)∨w.heap.size≤gp1))).kz K6 (Qd (Xu (A:=(fun x=>(x=gp1∧zp1≠0)∨w.heap.size≤x)) d Qn)))
 cases hm
 exact⟨_,_,rfl,Qr rfl (Ql rfl),H,I,J,rfl,B,⟨(Xu (A:=(fun x=>(x=gp1∧zp1≠0)∨w.heap.size≤x)) K (Xu (A:=(fun x=>(x=gp1∧zp1≠0)∨w.heap.size≤x)) d Qn))⟩,ay⟩
theorem Qkr (p0:Qz)(p1:List Int)(p2:Int)(p3:Int)(p4:Int)(p5:Int)(bp0:Nat)(vp0_7:Value)(zp0_7 gp0_7 op0_7:Nat)(vp0_8:Value)(zp0_8 gp0_8 op0_8:Nat)(vp0_9:Value)(zp0_9 gp0_9 op0_9:Nat)(vp0_10:Value)(zp0_10 gp0_10 op0_10:Nat)(vp1:Value)(zp1 gp1:Nat)(r:List Int)(hm:Ih p0 p1 p2 p3 p4 p5=some r)(w:World)(hbp0:Bx w bp0 116 (Qz.cs p0 vp0_7 vp0_8 vp0_9 vp0_10))(b:Rd w zp0_7 gp0_7 op0_7 1 vp0_7 (p0.rows.a0.map ic))(c:Rd w zp0_8 gp0_8 op0_8 1 vp0_8 (p0.rows.a1.map ic))(d:Rd w zp0_9 gp0_9 op0_9 1 vp0_9 (p0.rows.a2.map ic))(a:Rd w zp0_10 gp0_10 op0_10 1 vp0_10 (p0.rows.a3.map ic))(f:Qk w zp1 gp1 3 1 vp1 (p1.map ic))(g:Xb (zp1=0∨zp0_7=0∨gp1≠gp0_7))(h:Xb (zp1=0∨zp0_8=0∨gp1≠gp0_8))(i:Xb (zp1=0∨zp0_9=0∨gp1≠gp0_9))(j:Xb (zp1=0∨zp0_10=0∨gp1≠gp0_10))(k:Xb (zp1=0∨gp1≠bp0)):
 Calls Tryz.prog 34 [.pointer (some ⟨bp0,0,none⟩),vp1,.int .i64 p2,.int .i64 p3,.int .i64 p4,.int .i64 p5].toArray w fun e w'=>∃ v,e=.returned v∧(∃ (ur0_s:Value) (zr0_s:Nat) (gr0_s:Nat),v=ur0_s∧Qk w' zr0_s gr0_s 3 1 ur0_s (r.map ic)∧Xb (zr0_s=0∨(gr0_s=gp1∧zp1≠0)∨w.heap.size≤gr0_s)∧Kz [(zp1,gp1)] w w'):=
 Qts Qy p0 p1 p2 p3 p4 p5 bp0 vp0_7 zp0_7 gp0_7 op0_7 vp0_8 zp0_8 gp0_8 op0_8 vp0_9 zp0_9 gp0_9 op0_9 vp0_10 zp0_10 gp0_10 op0_10 vp1 zp1 gp1 r hm w hbp0 b c d a f g h i j k
theorem Qkp {p0 p1 r}(hm:Qbf p0 p1=some r){w:World}:
 Calls Tryz.prog 24 [.agg (Qo.cs p0).toArray,.int .i64 p1].toArray w fun e w'=>∃ v,e=.returned v∧(∃ ur0_s zr0_s gr0_s,v=.tuple [ur0_s,.int .i64 r.2].toArray∧Qk w' zr0_s gr0_s 3 1 ur0_s (r.1.map ic)∧Xb (zr0_s=0∨w.heap.size≤gr0_s)∧Gr w w'):=by
 unfold Qbf at hm
 refine Xj 30 Tryz.func24 rfl rfl rfl<|qs 3 rfl<|qe rfl (Xq (cs:=Qo.cs p0) rfl rfl) ?_
 rintro _ w1 ⟨b1,rfl,ad,o,G1⟩
 have z1:=G1.size
 have ar:=o.lt
 refine qn 2 rfl<|qd 8 rfl<|qv rfl (Xm Zj rfl o rfl)<|qm rfl ?_
 refine Qg8 23 Tryz.func45 rfl rfl rfl Qio rfl rfl rfl rfl rfl<|qs 3 rfl<|qe rfl (Xq (cs:=Qo.cs p0) rfl rfl) ?_
 rintro _ w2 ⟨b2,rfl,ae,n,G2⟩
 have z3:=G2.size
 have au:=n.lt
 refine qn 2 rfl<|Qa<|Qh<|qs 3 rfl<|qv rfl (Xm Zj rfl n rfl) ?_
 obtain⟨x1,Q,hm⟩:=Qc hm
 refine qe rfl (eC Qis rfl (Qhj Q)) ?_
 rintro _ w3 ⟨rfl,G3⟩
 have z5:=G3.size
 refine qm rfl<|qd 2 rfl<|qm rfl<|qv rfl (Ke (a:=x1) (b:=0) rfl rfl)<|Qa ?_
 refine Zq hm rfl (fun c1 hm=>?_) (fun c1 hm=>?_)
 · refine qs 3 rfl<|qn 3 rfl<|Qa<|Qp ?_
   refine Xp<|⟨_,_,rfl,Jk rfl (Ql rfl) (Ql rfl),?_⟩
   refine qn 5 rfl<|Qa<|Qh ?_
   refine qs 2 rfl<|qm rfl<|qv rfl (Ke (a:=x1) (b:=0) rfl rfl)<|Qa<|Zy hm rfl (fun c2 hm=>?_) (fun c2 hm=>?_)
   · cases hm
   refine qs 3 rfl<|qn 3 rfl<|Qa<|Qp ?_
   refine Xp ?_
   have X6:=((((Gr.refl w).trans G1).trans G2).trans G3)
   cases hm
   exact⟨_,_,rfl,Jk rfl (Ql rfl) (Ql rfl),(.slice none 0 0),0,0,rfl,(Kx _ 0 3 1),⟨.inl rfl⟩,X6⟩
 refine qu<|Qh ?_
 have X7:=((((Gr.refl w).trans G1).trans G2).trans G3)
 refine qj (β:=Bool) (rg 12 9) (fun a2=>[(20,.bool a2)]) (fun a2 wr=>(Qbg p0 p1 a2=some r)∧Kz [] w3 wr) ?_ ?_
 · refine qg 9 rfl<|qm rfl<|qv rfl (Zo (a:=p1) (b:=0) rfl rfl)<|Zm hm rfl (Qt rfl) (fun c4 hm=>?_) (fun c4 hm=>?_)
   · refine qn 6 rfl<|Qj ?_
     exact⟨rfl,true,Qi,hm,Qw⟩
   refine qm rfl<|qv rfl (Qg Ji rfl) ?_
   have R:=(n.gr G3)
   refine qv rfl (Qf (v:=.int .i64 p0.Depth) Qe rfl R rfl) ?_
   obtain⟨nn6,hnn6,hm⟩:=Qc hm
   refine qv rfl (Hi (a:=1) (b:=p0.Depth) rfl rfl hnn6)<|qv rfl (Ky (a:=p1) (b:=Xr 1 nn6) rfl rfl)<|qm rfl<|Qj ?_
   exact⟨rfl,(decide (Xr 1 nn6<p1)),Qi,hm,Qw⟩
 clear hm;rintro a2 w4 ⟨hm,K4⟩
 have z8:=K4.size
 unfold Qbg at hm
 refine Zh hm rfl (fun c3 hm=>?_) (fun c3 hm=>?_)
 · refine qs 2 rfl<|qn 2 rfl<|Qa<|Qp<|Xp ?_
   refine⟨_,_,rfl,Jk rfl (Ql rfl) (Ql rfl),?_⟩
   refine qn 5 rfl<|Qa<|Qh ?_
   refine qs 2 rfl<|qm rfl<|qv rfl (Ke (a:=2) (b:=0) rfl rfl)<|Qa<|Nt rfl<|Qh ?_
   refine qg 3 rfl<|qn 3 rfl<|Qa<|Qp<|Xp ?_
   have X9:=(X7.kz K4)
   cases hm
   exact⟨_,_,rfl,Jk rfl (Ql rfl) (Ql rfl),(.slice none 0 0),0,0,rfl,(Kx _ 0 3 1),⟨.inl rfl⟩,X9⟩
 refine qu<|qs 4 rfl ?_
 have S:=((n.gr G3).kz K4)
 refine qv rfl (Xm Zj rfl S rfl) ?_
 obtain⟨x3,T,hm⟩:=Qc hm
 refine qe rfl (eC Qe7 rfl (Qfc T)) ?_
 rintro _ w5 ⟨O,y,z,B,C,D,E,F,G,H,p,q,s,rfl,h,P,d,I,J,f,K,L,g,M,N,c,t,u,af,ag,ah,ai,aj,ak,G5⟩
 have av:=G5.size
 have al:=d.lth
 have am:=f.lth
 have an:=g.lth
 have ao:=c.lth
 have ap:=h.lt
 refine qn 2 rfl<|Qa<|Qp<|⟨_,_,rfl,Jk rfl (Ql rfl) (Ql rfl),?_⟩
 refine qn 5 rfl<|Qa<|Qh ?_
 refine qs 2 rfl<|qm rfl<|qv rfl (Ke (a:=0) (b:=0) rfl rfl)<|Qa<|Dj rfl<|Jb ?_
 refine Xa<|qs 8 rfl<|qn 2 rfl ?_
 obtain⟨x4,U,hm⟩:=Qc hm
 refine qe rfl (eC Qe8 rfl (Qfl U h (Qk.rd d) (Qk.rd f) (Qk.rd g) (Qk.rd c))) ?_
 rintro _ w6 ⟨rfl,G6⟩
 have aw:=G6.size
 refine qn 5 rfl<|Qa<|Qh ?_
 refine qg 7 rfl<|qm rfl<|qv rfl (Qg Ji rfl) ?_
 have V:=(((((o.gr G2).gr G3).kz K4).gr G5).gr G6)
 refine qv rfl (Qf (v:=.int .i64 p0.Depth) Qe rfl V rfl)<|qm rfl ?_
 have W:=(h.gr G6)
 have X:=(d.gr G6)
 have Y:=(f.gr G6)
 have Z:=(g.gr G6)
 have aa:=(c.gr G6)
 obtain⟨x5,ab,hm⟩:=Qc hm
 refine qe rfl (eC Qao rfl (Qkr x3 ([]:List Int) 1 0 p0.Depth x4.2 _ _ _ _ _ _ _ _ _ _ _ _ _ _ _ _ _ (.slice none 0 0) 0 0 _ ab _ W (Qk.rd X) (Qk.rd Y) (Qk.rd Z) (Qk.rd aa) (Kx _ 0 3 1) ⟨Qn⟩ ⟨Qn⟩ ⟨Qn⟩ ⟨Qn⟩ ⟨Qn⟩)) ?_
 rintro j w7 ⟨_,k,l,rfl,i,m,K7⟩
 have ax:=K7.size
 have aq:=i.lth
 refine qn 2 rfl<|Qa<|Qp ?_
 have ac:=((((X7.kz K4).trans G5).trans G6).kz K7)
 cases hm
 exact⟨_,_,rfl,Jk rfl (Ql rfl) (Ql rfl),j,k,l,rfl,i,⟨(Xu (A:=(fun x=>w.heap.size≤x)) m (.inl rfl))⟩,ac⟩
end Go.Proofs.YtopkalcefepilaaGreat.Mx
