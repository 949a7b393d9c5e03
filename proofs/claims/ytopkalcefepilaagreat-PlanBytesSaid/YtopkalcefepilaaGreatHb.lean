/- Walks that follow mirrors: Hb. Printed by mx.py. -/
import Derived.Test.YtopkalcefepilaaGreatZd
import Derived.Test.YtopkalcefepilaaGreatGd
set_option linter.unusedVariables false
set_option linter.unusedSimpArgs false
set_option maxRecDepth 100000
set_option maxHeartbeats 2000000
namespace Go.Proofs.YtopkalcefepilaaGreat.Mx
open Go Go.RowKit Go.Sx
theorem Lf:ZV Tryz.prog 50 (.agg [.slice none 0 0,.int .u64 0,.slice none 0 0,.int .u8 0,.int .u8 0,.int .u8 0,.int .u8 0,.int .u8 0,.int .u8 0,.int .u8 0,.int .u8 0,.int .u8 0,.int .u8 0,.int .u8 0,.int .u8 0,.int .u8 0,.int .u8 0,.int .u8 0,.int .u8 0,.int .u8 0,.int .u8 0,.int .u8 0,.int .u8 0,.int .u8 0,.int .u8 0,.int .u8 0,.int .u8 0,.int .u8 0,.int .u8 0,.int .u8 0,.int .u8 0,.int .u8 0,.int .u8 0,.int .u8 0,.int .u8 0].toArray):=fun _=>by kernel_rfl
theorem Cd:Ku Tryz.prog 47:=fun _=>⟨by kernel_rfl,by kernel_rfl⟩
theorem Lu:Ku Tryz.prog 48:=fun _=>⟨by kernel_rfl,by kernel_rfl⟩
theorem Xk:Ky Tryz.prog 39 16:=fun _=>⟨by kernel_rfl,by kernel_rfl⟩
theorem Db:BS Tryz.prog 50 (fun i=>[(0,1),(1,1),(2,1),(3,16),(19,16)][i]?) [.slice none 0 0,.int .u64 0,.slice none 0 0,.int .u8 0,.int .u8 0,.int .u8 0,.int .u8 0,.int .u8 0,.int .u8 0,.int .u8 0,.int .u8 0,.int .u8 0,.int .u8 0,.int .u8 0,.int .u8 0,.int .u8 0,.int .u8 0,.int .u8 0,.int .u8 0,.int .u8 0,.int .u8 0,.int .u8 0,.int .u8 0,.int .u8 0,.int .u8 0,.int .u8 0,.int .u8 0,.int .u8 0,.int .u8 0,.int .u8 0,.int .u8 0,.int .u8 0,.int .u8 0,.int .u8 0,.int .u8 0]:=Dc Tryz.underlying50 Lf ⟨rfl,(Cd).siz,rfl,(Zw).siz,rfl,(Lu).siz,rfl,(Xk).siz,rfl,(Xk).siz,trivial⟩
theorem Jr:Ky Tryz.prog 50 35:=fun _=>⟨by kernel_rfl,by kernel_rfl⟩
theorem Dg:En Tryz.prog 68:=fun _ _=>by kernel_rfl
theorem Yr:ZV Tryz.prog 39 (.agg [.int .u8 0,.int .u8 0,.int .u8 0,.int .u8 0,.int .u8 0,.int .u8 0,.int .u8 0,.int .u8 0,.int .u8 0,.int .u8 0,.int .u8 0,.int .u8 0,.int .u8 0,.int .u8 0,.int .u8 0,.int .u8 0].toArray):=fun _=>by kernel_rfl
theorem Qxy:CV Tryz.prog 149 22 .u64:=fun _ _ _=>by kernel_rfl
theorem Qjo:En Tryz.prog 104:=fun _ _=>by kernel_rfl
theorem Qpl:En Tryz.prog 103:=fun _ _=>by kernel_rfl
theorem Qyo:En Tryz.prog 150:=fun _ _=>by kernel_rfl
theorem Ux:FA Tryz.prog 50 0 0:=fun _ _ _=>by kernel_rfl
theorem Qpk:En Tryz.prog 102:=fun _ _=>by kernel_rfl
theorem Qcn:En Tryz.prog 121:=fun _ _=>by kernel_rfl
theorem Qnq:ZV Tryz.prog 139 (.agg [.int .i64 0,.int .i64 0,.int .u8 0,.int .u8 0,.int .u8 0,.int .u8 0,.int .u8 0,.int .u8 0,.int .u8 0,.int .u8 0,.int .u8 0,.int .u8 0,.int .u8 0,.int .u8 0,.int .u8 0,.int .u8 0,.int .u8 0,.int .u8 0].toArray):=fun _=>by kernel_rfl
theorem Qwk:BS Tryz.prog 139 (fun i=>[(0,2),(2,16)][i]?) [.int .i64 0,.int .i64 0,.int .u8 0,.int .u8 0,.int .u8 0,.int .u8 0,.int .u8 0,.int .u8 0,.int .u8 0,.int .u8 0,.int .u8 0,.int .u8 0,.int .u8 0,.int .u8 0,.int .u8 0,.int .u8 0,.int .u8 0,.int .u8 0]:=Dc Tryz.underlying139 Qnq ⟨rfl,(Nd).siz,rfl,(Xk).siz,trivial⟩
theorem Ia:Ky Tryz.prog 139 18:=fun _=>⟨by kernel_rfl,by kernel_rfl⟩
theorem Qwt:Du Tryz.prog 47 1 139 18 [.int .i64 0,.int .i64 0,.int .u8 0,.int .u8 0,.int .u8 0,.int .u8 0,.int .u8 0,.int .u8 0,.int .u8 0,.int .u8 0,.int .u8 0,.int .u8 0,.int .u8 0,.int .u8 0,.int .u8 0,.int .u8 0,.int .u8 0,.int .u8 0]:=Nf Tryz.underlying47 (Ia).siz Qnq rfl rfl (by kernel_rfl)
theorem Qvy:Dt Tryz.prog 47 139 18 32:=Rs Tryz.underlying47 rfl (by kernel_rfl)
theorem Qvw:Dt Tryz.prog 185 22 1 8:=Rs Tryz.underlying185 rfl (by kernel_rfl)
theorem Qns:ZV Tryz.prog 22 (.int .u64 0):=fun _=>by kernel_rfl
theorem Rn:ZV Tryz.prog 227 (.agg [.int .u64 0,.int .u64 0].toArray):=fun _=>by kernel_rfl
theorem Uu:FA Tryz.prog 227 0 0:=fun _ _ _=>by kernel_rfl
theorem Bf:CV Tryz.prog 5 22 .u64:=fun _ _ _=>by kernel_rfl
theorem Sy:FA Tryz.prog 227 1 1:=fun _ _ _=>by kernel_rfl
theorem Pz:Ky Tryz.prog 227 2:=fun _=>⟨by kernel_rfl,by kernel_rfl⟩
theorem Qf2:En Tryz.prog 153:=fun _ _=>by kernel_rfl
theorem Xaf:F1 Tryz.prog 227 0 0:=Xag (fun _ _=>by kernel_rfl)
theorem Qpn:En Tryz.prog 118:=fun _ _=>by kernel_rfl
theorem Qa3:En Tryz.prog 109:=fun _ _=>by kernel_rfl
theorem Qe9:ZV Tryz.prog 185 (.slice none 0 0):=fun _=>by kernel_rfl
theorem Qea:ZV Tryz.prog 188 (.int .u64 0):=fun _=>by kernel_rfl
theorem Fu:Ku Tryz.prog 185:=fun _=>⟨by kernel_rfl,by kernel_rfl⟩
theorem Fv:Ku Tryz.prog 188:=fun _=>⟨by kernel_rfl,by kernel_rfl⟩
theorem Qyv:En Tryz.prog 188:=fun _ _=>by kernel_rfl
theorem Qyr:En Tryz.prog 158:=fun _ _=>by kernel_rfl
theorem Qjp:En Tryz.prog 112:=fun _ _=>by kernel_rfl
theorem Xie:ZV Tryz.prog 196 (.nilFunc):=fun _=>by kernel_rfl
theorem Qgj:Ku Tryz.prog 196:=fun _=>⟨by kernel_rfl,by kernel_rfl⟩
theorem Qpp:En Tryz.prog 120:=fun _ _=>by kernel_rfl
theorem Qyq:En Tryz.prog 156:=fun _ _=>by kernel_rfl
theorem Qwp:Du Tryz.prog 184 2 22 1 [.int .u64 0,.int .u64 0]:=Nf Tryz.underlying184 (Zw).siz Qns rfl rfl (by kernel_rfl)
theorem Qya:En Tryz.prog 114:=fun _ _=>by kernel_rfl
theorem Qyu:En Tryz.prog 187:=fun _ _=>by kernel_rfl
theorem Qkd:FA Tryz.prog 50 1 1:=fun _ _ _=>by kernel_rfl
theorem Qpm:En Tryz.prog 110:=fun _ _=>by kernel_rfl
theorem Fb:FA Tryz.prog 50 2 2:=fun _ _ _=>by kernel_rfl
theorem Qjq:En Tryz.prog 119:=fun _ _=>by kernel_rfl
theorem Qnt:ZV Tryz.prog 60 (.agg [.int .u64 0,.int .u64 0].toArray):=fun _=>by kernel_rfl
theorem Qj7:BS Tryz.prog 60 (fun i=>[(0,1),(1,1)][i]?) [.int .u64 0,.int .u64 0]:=Dc Tryz.underlying60 Qnt ⟨rfl,(Zw).siz,rfl,(Zw).siz,trivial⟩
theorem Qbz:Ky Tryz.prog 60 2:=fun _=>⟨by kernel_rfl,by kernel_rfl⟩
theorem Qoe:Du Tryz.prog 48 1 60 2 [.int .u64 0,.int .u64 0]:=Nf Tryz.underlying48 (Qbz).siz Qnt rfl rfl (by kernel_rfl)
theorem Qnx:Dt Tryz.prog 48 60 2 16:=Rs Tryz.underlying48 rfl (by kernel_rfl)
theorem Qc6:BZ Tryz.prog 39 (kv k0):=fun _=>by kernel_rfl
theorem Qyb:En Tryz.prog 117:=fun _ _=>by kernel_rfl
theorem Qke:FA Tryz.prog 50 3 3:=fun _ _ _=>by kernel_rfl
theorem Qje {p0 p1 r}(hm:Ry p0 p1=some r){w:World}:
 Calls Tryz.prog 104 [kv p0,.int .i64 p1].toArray w fun e w'=>∃ v,e=.returned v∧(v=kv r∧Gr w w'):=by
 unfold Ry at hm
 refine Xi 9 Tryz.func104 rfl rfl rfl<|qs 2 rfl<|qe rfl (Xo (cs:=kb p0) rfl rfl) ?_
 rintro _ w1 ⟨b1,rfl,d,a,G1⟩
 have z1:=G1.size
 have g:=a.lt
 refine qe rfl (Xg (cs:=kb k0) Yr rfl) ?_
 rintro _ w2 ⟨b2,rfl,f,b,G2⟩
 have z3:=G2.size
 have h:=b.lt
 refine qd 5 rfl ?_
 have B5:=(a.gr G2)
 refine qv rfl (Xa Xk rfl B5 rfl)<|qm rfl<|qv rfl (Ww Qxy rfl)<|qe rfl (eC Dg rfl (Dd p0 (Qs 30#8) (Hv _) (Hu _) (wd p1) _)) ?_
 rintro _ w3 ⟨rfl,G3⟩
 have z6:=G3.size
 have B7:=(b.gr G3)
 refine qe rfl (Xf Xk rfl rfl rfl B7 rfl rfl) ?_
 rintro _ w4 ⟨c,M4⟩
 have z8:=M4.size
 refine Qa<|Qq ?_
 have X9:=(((((Gr.refl w).trans G1).trans G2).trans G3).md M4)
 cases hm
 exact⟨_,_,rfl,Qz rfl (Zf Xk rfl c rfl),rfl,X9⟩
theorem Qoy {p0 p1 p2 r}(hm:Mw p0 p1 p2=some r){w:World}:
 Calls Tryz.prog 103 [kv p0,.int .i64 p1,.int .i64 p2].toArray w fun e w'=>∃ v,e=.returned v∧(v=kv r∧Gr w w'):=by
 unfold Mw at hm
 refine Xi 20 Tryz.func103 rfl rfl rfl<|qs 2 rfl<|qe rfl (Xo (cs:=kb p0) rfl rfl) ?_
 rintro _ w1 ⟨b1,rfl,Q,p,G1⟩
 have z1:=G1.size
 have X:=p.lt
 refine qe rfl (Xg (cs:=kb k0) Yr rfl) ?_
 rintro _ w2 ⟨b2,rfl,R,q,G2⟩
 have z3:=G2.size
 have Y:=q.lt
 refine Qa<|Qe<|qs 3 rfl<|qn 2 rfl ?_
 obtain⟨x1,D,hm⟩:=Qd hm
 refine qe rfl (eC Qk4 rfl (Qjg D)) ?_
 rintro _ w3 ⟨s,t,rfl,d,u,f,y,G3⟩
 have z5:=G3.size
 have Z:=d.lt
 have aa:=f.lt
 refine Qa<|Xn ?_
 obtain⟨l2,F,hm⟩:=Qd hm
 have X8:=((((Gr.refl w).trans G1).trans G2).trans G3)
 have B9:=((p.gr G2).gr G3)
 have G:=(q.gr G3)
 refine Rl (gf:=149) rfl Qjs (Qjf x1.1 x1.2 _ _ _ F _ d f) (by intro x hx;obtain⟨a,_,rfl⟩:=List.mem_map.1 hx;rfl) rfl _ (fun _ _ _ _=>False) ([b1]) (Sa (α:=W2) (fun a4 rk=>Js Om Qch (List.drop rk l2) a4=some r) (fun a4=>([b1])) (fun a4 W=>Bx W b1 39 (kb a4)∧True) (by rintro a4 W ⟨F0,_⟩ b hb;have q0:=F0.lt;replace hb:b∈([b1]):=hb;simp only[List.mem_cons,List.mem_append,Xt,List.not_mem_nil,or_false,false_or,not_or,ne_eq,List.nil_append,List.cons_append,true_and,and_true,false_and,and_false,not_true_eq_false,not_false_eq_true,or_true,true_or] at hb;omega) (by rintro a4 W W' ⟨F0,_⟩ E hs;replace hs:∀ b∈([b1]),W'.heap[b]? = W.heap[b]? := hs;exact⟨(hs _ (by simp)).trans F0,trivial⟩)) (fun _=>Al) (by intro b hb;simp only[List.mem_cons,List.mem_append,Xt,List.not_mem_nil,or_false,false_or,not_or,ne_eq,List.nil_append,List.cons_append,true_and,and_true,false_and,and_false,not_true_eq_false,not_false_eq_true,or_true,true_or] at hb ⊢;omega) ⟨p0,hm,rfl,B9,trivial⟩ ?_ ?_ ?_
 · rintro l rk x fp w4 hl hx _ K4 hF hln Jc
   clear hm
   obtain⟨e5,hxe,rfl⟩:=map_some hx
   have H:Kz [(1,b1)] w3 w4:=Ta K4 (by intro k hk;simp only[Zh,and_true,List.mem_cons,List.mem_append,Xt,List.not_mem_nil,or_false,false_or,not_or,ne_eq,List.nil_append,List.cons_append,true_and,and_true,false_and,and_false,not_true_eq_false,not_false_eq_true,or_true,true_or] at hk ⊢;omega)
   have ab:=K4.size
   refine qg 1 rfl<|qm rfl<|Qk<|⟨rfl,(Gr.refl _),?_⟩
   rintro w5 M5 ⟨a4,hm,rfl,g,-⟩
   have ac:=M5.size
   have S:=g.lt
   replace hm:=Br hm hxe
   generalize hnx1:Js Om Qch (List.drop (rk+1) l2)=I at hm
   unfold Om at hm
   try dsimp only at hm
   refine Xn<|qs 1 rfl<|qm rfl<|Qa ?_
   have ad:=((X8.kz H).md M5)
   refine qj (β:=BitVec 8) [8,13,14,15] (fun a6=>[(8,bv a6)]) (fun a6 wr=>(Qci a4 I a6=some r)∧Kz [] w5 wr) ?_ ?_
   · refine qs 3 rfl<|qm rfl ?_
     obtain⟨x7,J,hm⟩:=Qd hm
     refine qv rfl (Qnj (a:=e5) (b:=2) rfl rfl J)<|qv rfl (Zu (a:=x7) (b:=1) rfl rfl)<|Qa<|Kx hm rfl (fun c1 hm=>?_) (fun c1 hm=>?_)
     · refine Jn ?_
       exact⟨rfl,31#8,Ql,hm,Xe⟩
     refine qg 1 rfl<|qm rfl<|Qk ?_
     exact⟨rfl,32#8,Ql,hm,Xe⟩
   clear hm;rintro a6 w6 ⟨hm,K6⟩
   have ae:=K6.size
   unfold Qci at hm
   refine qg 4 rfl ?_
   have z:=(g.kz K6)
   refine qv rfl (Xa Xk rfl z rfl)<|qm rfl<|qe rfl (eC Dg rfl (Dd a4 (Qs a6) (Hv _) (Hu _) 0#64 _)) ?_
   rintro _ w7 ⟨rfl,G7⟩
   have af:=G7.size
   have K:=(z.gr G7)
   refine qe rfl (Xf Xk rfl rfl rfl K rfl rfl) ?_
   rintro _ w8 ⟨L,M8⟩
   have ag:=M8.size
   refine Qk<|Xh ?_
   have K_20:Kz [(1,b1)] w5 w8:=(((Kz.kz (Kz.refl _ _) K6).gr G7).md M8)
   have Kq20:Kp ([b1]) w5 w8:=Lo K_20 (by intro k hk;simp only[Zh,and_true,List.mem_cons,List.mem_append,Xt,List.not_mem_nil,or_false,false_or,not_or,ne_eq,List.nil_append,List.cons_append,true_and,and_true,false_and,and_false,not_true_eq_false,not_false_eq_true,or_true,true_or] at hk ⊢;omega)
   subst hnx1
   exact⟨Kq20,([b1]),(by intro c hc;simp only[List.mem_cons,List.mem_append,Xt,List.not_mem_nil,or_false,false_or,not_or,ne_eq,List.nil_append,List.cons_append,true_and,and_true,false_and,and_false,not_true_eq_false,not_false_eq_true,or_true,true_or] at hc ⊢;omega),⟨Xy a4 (Qs a6) 0#64,hm,rfl,L,trivial⟩⟩
 · clear hm;rintro m fp w9 T j M ⟨a4,hm,rfl,i,-⟩ K9
   replace hm:=Bs hm
   have A:Kz [(1,b1)] w3 w9:=Ta K9 (by intro k hk;simp only[Zh,and_true,List.mem_cons,List.mem_append,Xt,List.not_mem_nil,or_false,false_or,not_or,ne_eq,List.nil_append,List.cons_append,true_and,and_true,false_and,and_false,not_true_eq_false,not_false_eq_true,or_true,true_or] at hk ⊢;omega)
   have ah:=K9.size
   have U:=Df.lt (w:=w9) j
   simp only[List.mem_cons,List.mem_append,Xt,List.not_mem_nil,or_false,false_or,not_or,ne_eq,List.nil_append,List.cons_append,true_and,and_true,false_and,and_false,not_true_eq_false,not_false_eq_true,or_true,true_or,not_and] at M
   have V:=i.lt
   unfold Qch at hm
   try dsimp only at hm
   refine Xh<|Xl<|qs 2 rfl<|qv rfl (Xa Xk rfl i rfl) ?_
   have N:=(G.kz A)
   refine qe rfl (Xf Xk rfl rfl rfl N rfl rfl) ?_
   rintro _ B ⟨C,n⟩
   have ai:=n.size
   refine Qa<|Qq ?_
   have DL28:=(Df.md j n)
   have o:=Md.put (w:=B) m (.deferred none)
   have zL28:=o.size
   have O:=(C.md o)
   have P:Gr w (B.putObj m (.deferred none)):=(((X8.kz A).md n).md o)
   cases hm
   refine⟨_,_,⟨m,rfl,DL28,rfl⟩,Qz rfl (Zf Xk rfl O rfl),?_⟩
   exact⟨rfl,P⟩
 rintro _ _ _ _ _ _ _ _ _ h _
 exact h.elim
theorem Qxr {p0 r}(hm:Qeu p0=some r){w:World}:
 Calls Tryz.prog 150 [kv p0].toArray w fun e w'=>∃ v,e=.returned v∧(v=kv r∧Gr w w'):=by
 unfold Qeu at hm
 refine Xi 5 Tryz.func150 rfl rfl rfl<|qs 2 rfl<|qe rfl (Xo (cs:=kb p0) rfl rfl) ?_
 rintro _ w1 ⟨b1,rfl,d,a,G1⟩
 have z1:=G1.size
 have g:=a.lt
 refine qe rfl (Xg (cs:=kb k0) Yr rfl) ?_
 rintro _ w2 ⟨b2,rfl,f,b,G2⟩
 have z3:=G2.size
 have h:=b.lt
 refine qd 3 rfl ?_
 have B5:=(a.gr G2)
 refine qv rfl (Xa Xk rfl B5 rfl)<|qe rfl (eC Dg rfl (Dd p0 (Qs 33#8) (Hv _) (Hu _) 0#64 _)) ?_
 rintro _ w3 ⟨rfl,G3⟩
 have z6:=G3.size
 have B7:=(b.gr G3)
 refine qe rfl (Xf Xk rfl rfl rfl B7 rfl rfl) ?_
 rintro _ w4 ⟨c,M4⟩
 have z8:=M4.size
 refine Qa<|Qq ?_
 have X9:=(((((Gr.refl w).trans G1).trans G2).trans G3).md M4)
 cases hm
 exact⟨_,_,rfl,Qz rfl (Zf Xk rfl c rfl),rfl,X9⟩
theorem Qp2 {p0 p1 p2 r}(hm:Bc p0 p1 p2=some r){w:World}:
 Calls Tryz.prog 102 [.agg (Xj.cs p0).toArray,kv p1,.agg (Qx.cs p2).toArray].toArray w fun e w'=>∃ v,e=.returned v∧(v=kv r∧Gr w w'):=by
 unfold Bc at hm
 refine Xi 32 Tryz.func102 rfl rfl rfl<|qs 4 rfl<|qe rfl (Xo (cs:=Xj.cs p0) rfl rfl) ?_
 rintro _ w1 ⟨b1,rfl,H,i,G1⟩
 have z1:=G1.size
 have L:=i.lt
 refine qe rfl (Xo (cs:=kb p1) rfl rfl) ?_
 rintro _ w2 ⟨b2,rfl,I,c,G2⟩
 have z3:=G2.size
 have M:=c.lt
 refine qe rfl (Xo (cs:=Qx.cs p2) rfl rfl) ?_
 rintro _ w3 ⟨b3,rfl,J,j,G3⟩
 have z5:=G3.size
 have N:=j.lt
 refine qe rfl (Xg (cs:=kb k0) Yr rfl) ?_
 rintro _ w4 ⟨b4,rfl,K,d,G4⟩
 have z7:=G4.size
 have O:=d.lt
 refine Qa<|Qe<|dw [([])] [] (.leaf [(0,10),(1,10),(2,10),(3,10),(4,10),(5,10)]) ?_
 intro w5 G5 P
 refine Zz<|dh 0 rfl rfl (fun w hS=>Qh Qae rfl) ?_
 have Y1:=Gr.trans G4 G5
 have B9:=(j.gr Y1)
 refine dh 0 rfl rfl (fun w hS=>Qi (v:=.int .i64 p2.Node) Qm rfl (Bx.kp B9 hS) rfl)<|dh 0 rfl rfl (fun w hS=>Qh Qaf rfl)<|dh 0 rfl rfl (fun w hS=>Qi (v:=.int .i64 p2.Minus) Qm rfl (Bx.kp B9 hS) rfl)<|dm 0 rfl rfl<|dm 0 rfl rfl<|Qa<|Qe ?_
 refine Xn<|qs 4 rfl<|qv rfl (Qh Ut rfl) ?_
 have Y2:=Gr.trans (Gr.trans G2 G3) Y1
 have m:=(i.gr Y2)
 refine qv rfl (Qi (v:=bv p0.kind) Zb rfl m rfl)<|qv rfl (Vt (p:=p0.kind) (q:=1#8) rfl rfl)<|qm rfl<|Qa<|Zv hm rfl (fun c1 hm=>?_) (fun c1 hm=>?_)
 · refine qs 4 rfl ?_
   have Y3:=Gr.trans G3 Y1
   have n:=(c.gr Y3)
   refine qv rfl (Xa Xk rfl n rfl)<|qm rfl ?_
   obtain⟨x1,o,hm⟩:=Qd hm
   refine qe rfl (eC Qjo rfl (Qje o)) ?_
   rintro _ w6 ⟨rfl,G6⟩
   have Q:=G6.size
   have s:=((d.gr G5).gr G6)
   refine qe rfl (Xf Xk rfl rfl rfl s rfl rfl) ?_
   rintro _ w7 ⟨t,M7⟩
   have R:=M7.size
   refine Qa<|Qq<|Jf<|Xz ?_
   have u:=(((((Gr.refl w).trans G1).trans Y2).trans G6).md M7)
   cases hm
   exact⟨_,_,rfl,Qz rfl (Zf Xk rfl t rfl),rfl,u⟩
 refine qs 3 rfl<|qm rfl<|qv rfl (Zu (a:=p2.Minus) (b:=0) rfl rfl)<|qm rfl<|Qa<|Zv hm rfl (fun c2 hm=>?_) (fun c2 hm=>?_)
 · refine qs 3 rfl ?_
   have Y4:=Gr.trans G3 Y1
   have x:=(c.gr Y4)
   refine qv rfl (Xa Xk rfl x rfl)<|qe rfl (eC Dg rfl (Dd p1 (Qs 34#8) (Hv _) (Hu _) 0#64 _)) ?_
   rintro _ w8 ⟨rfl,G8⟩
   have S:=G8.size
   have y:=((d.gr G5).gr G8)
   refine qe rfl (Xf Xk rfl rfl rfl y rfl rfl) ?_
   rintro _ w9 ⟨z,M9⟩
   have T:=M9.size
   refine Qa<|Qq<|Jf<|Xz ?_
   have A:=(((((Gr.refl w).trans G1).trans Y2).trans G8).md M9)
   cases hm
   exact⟨_,_,rfl,Qz rfl (Zf Xk rfl z rfl),rfl,A⟩
 refine Jn<|Xh<|Xl<|qs 8 rfl ?_
 have Y5:=Gr.trans G3 Y1
 have B:=(c.gr Y5)
 refine qv rfl (Xa Xk rfl B rfl)<|qm rfl ?_
 obtain⟨x2,C,hm⟩:=Qd hm
 refine qe rfl (eC Qjo rfl (Qje C)) ?_
 rintro _ U ⟨rfl,f⟩
 have V:=f.size
 refine qn 2 rfl ?_
 obtain⟨x3,D,hm⟩:=Qd hm
 refine qe rfl (eC Qpl rfl (Qoy D)) ?_
 rintro _ W ⟨rfl,g⟩
 have X:=g.size
 obtain⟨x4,E,hm⟩:=Qd hm
 refine qe rfl (eC Qyo rfl (Qxr E)) ?_
 rintro _ Y ⟨rfl,h⟩
 have Z:=h.size
 have Y6:=Gr.trans (Gr.trans (Gr.trans G5 f) g) h
 have F:=(d.gr Y6)
 refine qe rfl (Xf Xk rfl rfl rfl F rfl rfl) ?_
 rintro _ aa ⟨k,l⟩
 have ab:=l.size
 refine Qa<|Qq ?_
 have G:=(((((((Gr.refl w).trans G1).trans Y2).trans f).trans g).trans h).md l)
 cases hm
 exact⟨_,_,rfl,Qz rfl (Zf Xk rfl k rfl),rfl,G⟩
theorem Qxn {p0 p1 p2 p3 vp2 zp2 gp2 op2 r}(hm:Qcd p0 p1 p2 p3=some r){w:World}(T:Rd w zp2 gp2 op2 2 vp2 (p2.map Qx.cs)):
 Calls Tryz.prog 108 [kv p0,.agg (Qj.cs p1).toArray,vp2,kv p3].toArray w fun e w'=>∃ v,e=.returned v∧(∃ ur0_0 zr0_0 gr0_0 ur0_2 zr0_2 gr0_2,v=.tuple [.agg (Qy.cs r.1 ur0_0 ur0_2).toArray,.int .i64 r.2].toArray∧Qg w' zr0_0 gr0_0 139 18 ur0_0 (r.1.Items.map Zr.cs)∧Xd (zr0_0=0∨w.heap.size≤gr0_0)∧Qg w' zr0_2 gr0_2 60 2 ur0_2 (r.1.Points.map Xq.cs)∧Xd (zr0_2=0∨w.heap.size≤gr0_2)∧Xd (zr0_2=0∨zr0_0=0∨gr0_2≠gr0_0)∧Gr w w'):=by
 have M:=T.lth
 unfold Qcd at hm
 refine Xi 60 Tryz.func108 rfl rfl rfl<|qs 5 rfl<|qe rfl (Xo (cs:=kb p0) rfl rfl) ?_
 rintro _ w1 ⟨b1,rfl,aY,U,G1⟩
 have z2:=G1.size
 have bg:=U.lt
 refine qe rfl (Xo (cs:=Qj.cs p1) rfl rfl) ?_
 rintro _ w2 ⟨b2,rfl,aZ,V,G2⟩
 have z4:=G2.size
 have bh:=V.lt
 refine qe rfl (Xo (cs:=kb p3) rfl rfl) ?_
 rintro _ w3 ⟨b3,rfl,a0,W,G3⟩
 have z6:=G3.size
 have bi:=W.lt
 refine qe rfl (Xg (cs:=Qy.cs (Qy.mk [] 0#64 [] k0 k0) (.slice none 0 0) (.slice none 0 0)) Lf rfl) ?_
 rintro _ w4 ⟨b4,rfl,a1,B,G4⟩
 have z8:=G4.size
 have bj:=B.lt
 refine qm rfl<|Qa<|Qe<|qs 3 rfl ?_
 have Y1:=Gr.trans G3 G4
 have X:=(V.gr Y1)
 refine qv rfl (Xa Zq rfl X rfl) ?_
 obtain⟨x1,ax,hm⟩:=Qd hm
 refine qe rfl (eC Qa4 rfl (Oc ax)) ?_
 rintro _ w5 ⟨rfl,G5⟩
 have bk:=G5.size
 refine qm rfl<|qd 2 rfl<|qm rfl<|qv rfl (Kg (a:=x1) (b:=0) rfl rfl)<|Qa ?_
 refine Zv hm rfl (fun c1 hm=>?_) (fun c1 hm=>?_)
 · refine qs 4 rfl<|qv rfl (Zk (cs:=Qy.cs (Qy.mk [] 0#64 [] k0 k0) (.slice none 0 0) (.slice none 0 0)) Db rfl (by kernel_rfl))<|qm rfl ?_
   have ay:=(B.gr G5)
   refine qe rfl (Xf Jr rfl rfl (Qy.cs_ones _ _ _ rfl rfl) ay rfl rfl) ?_
   rintro _ w6 ⟨az,M6⟩
   have bl:=M6.size
   refine qm rfl<|qb ?_
   have Y2:=Gr.trans (Gr.trans (Gr.trans G1 G2) Y1) G5
   have aA:=(((Gr.refl w).trans Y2).md M6)
   cases hm
   exact⟨_,_,rfl,Za rfl (Zf Jr rfl az rfl) (Qn rfl),(.slice none 0 0),0,0,(.slice none 0 0),0,0,rfl,(Zi _ 0 139 18),⟨.inl rfl⟩,(Zi _ 0 60 2),⟨.inl rfl⟩,⟨(.inl rfl)⟩,aA⟩
 refine qu<|Qe<|qs 3 rfl<|qm rfl ?_
 have Y3:=Gr.trans (Gr.trans (Gr.trans G1 G2) Y1) G5
 have N:=(T.gr Y3)
 refine qv rfl (Kq (l:=p2) (c:=Qx.cs) Tryz.underlying101 rfl N)<|qv rfl (Wr (a:=(p2.length:Int)) (b:=64) rfl rfl)<|Qa<|Zv hm rfl (fun c2 hm=>?_) (fun c2 hm=>?_)
 · refine qs 3 rfl<|qv rfl (Zk (cs:=Qy.cs (Qy.mk [] 0#64 [] k0 k0) (.slice none 0 0) (.slice none 0 0)) Db rfl (by kernel_rfl)) ?_
   have aB:=(B.gr G5)
   refine qe rfl (Xf Jr rfl rfl (Qy.cs_ones _ _ _ rfl rfl) aB rfl rfl) ?_
   rintro _ w7 ⟨aC,M7⟩
   have bm:=M7.size
   refine qm rfl<|qb ?_
   have aD:=(((Gr.refl w).trans Y3).md M7)
   cases hm
   exact⟨_,_,rfl,Za rfl (Zf Jr rfl aC rfl) (Qn rfl),(.slice none 0 0),0,0,(.slice none 0 0),0,0,rfl,(Zi _ 0 139 18),⟨.inl rfl⟩,(Zi _ 0 60 2),⟨.inl rfl⟩,⟨(.inl rfl)⟩,aD⟩
 refine qu<|qs 9 rfl ?_
 have aE:=(X.gr G5)
 refine qv rfl (Xa Zq rfl aE rfl)<|qm rfl ?_
 obtain⟨x2,aF,hm⟩:=Qd hm
 refine qe rfl (eC Qf9 rfl (Qes aF N)) ?_
 rintro _ w8 ⟨rfl,G8⟩
 have bo:=G8.size
 refine qn 3 rfl<|qe rfl (Xg (cs:=Xj.cs (Xj.mk 0#8 0 0)) Sc rfl) ?_
 rintro _ w9 ⟨b9,rfl,a2,Y,G9⟩
 have bp:=G9.size
 have a3:=Y.lt
 refine qe rfl (Xf Ki rfl rfl rfl Y rfl rfl) ?_
 rintro _ bq ⟨Z,n⟩
 have br:=n.size
 refine qm rfl<|Qa<|Qe<|qs 2 rfl<|qm rfl<|qv rfl (Kg (a:=x2.2) (b:=0) rfl rfl) ?_
 refine Qa<|Zv hm rfl (fun c3 hm=>?_) (fun c3 hm=>?_)
 · refine qs 4 rfl<|qv rfl (Zk (cs:=Qy.cs (Qy.mk [] 0#64 [] k0 k0) (.slice none 0 0) (.slice none 0 0)) Db rfl (by kernel_rfl))<|qm rfl ?_
   have Y4:=Gr.trans (Gr.trans G5 G8) G9
   have aG:=((B.gr Y4).md n)
   refine qe rfl (Xf Jr rfl rfl (Qy.cs_ones _ _ _ rfl rfl) aG rfl rfl) ?_
   rintro _ bs ⟨aa,ab⟩
   have bu:=ab.size
   refine qm rfl<|qb ?_
   have aH:=((((((Gr.refl w).trans Y3).trans G8).trans G9).md n).md ab)
   cases hm
   exact⟨_,_,rfl,Za rfl (Zf Jr rfl aa rfl) (Qn rfl),(.slice none 0 0),0,0,(.slice none 0 0),0,0,rfl,(Zi _ 0 139 18),⟨.inl rfl⟩,(Zi _ 0 60 2),⟨.inl rfl⟩,⟨(.inl rfl)⟩,aH⟩
 refine qu<|qs 5 rfl ?_
 have Y5:=Gr.trans (Gr.trans (Gr.trans G4 G5) G8) G9
 have ac:=((W.gr Y5).md n)
 refine qv rfl (Xa Xk rfl ac rfl)<|qe rfl (eC Dg rfl (Dd p3 (Qs 53#8) (Hv _) (Hu _) 0#64 _)) ?_
 rintro _ bw ⟨rfl,ad⟩
 have bx:=ad.size
 refine qv rfl (Zk (cs:=Qy.cs (Qy.mk [] 0#64 [] k0 (Xy p3 (Qs 53#8) 0#64)) (.slice none 0 0) (.slice none 0 0)) Db rfl (by obtain⟨aI,O⟩:=Ur (Xy p3 (Qs 53#8) 0#64);rw[←O];exact(Vz rfl rfl rfl (by kernel_rfl))))<|qe rfl (Xg (cs:=Qy.cs (Qy.mk [] 0#64 [] k0 k0) (.slice none 0 0) (.slice none 0 0)) Lf rfl) ?_
 rintro _ bz ⟨f,rfl,aJ,G,ae⟩
 have bA:=ae.size
 have a4:=G.lt
 refine qe rfl (Xf Jr rfl rfl (Qy.cs_ones _ _ _ rfl rfl) G rfl rfl) ?_
 rintro _ y ⟨af,q⟩
 have bB:=q.size
 refine Qa<|Qe<|qs 3 rfl<|qm rfl ?_
 have Y6:=Gr.trans G8 G9
 have Y7:=Gr.trans ad ae
 have ag:=((((N.gr Y6).md n (Qw M)).gr Y7).md q (Qw M))
 refine qv rfl (Kq (l:=p2) (c:=Qx.cs) Tryz.underlying101 rfl ag)<|qm rfl<|Qa<|Xn ?_
 have aK:=((((((Gr.refl w).trans Y3).trans Y6).md n).trans Y7).md q)
 refine Kf (α:=Nat × Int × List Zr × Value × Nat × Nat) ([15]++rg 41 18) (fun⟨n1,a6,a7,vy8,zy8,gy8⟩=>[(41,.int .i64 a6)]) (fun⟨n1,a6,a7,vy8,zy8,gy8⟩ wr=>(Qv (Oj p0 p2 p3 x2) n1 (a6,a7)=some r)∧Qg wr zy8 gy8 139 18 vy8 (a7.map Zr.cs)∧Xd (zy8=0∨y.heap.size≤gy8)∧Bx wr f 50 (Qy.cs (Qy.mk a7 0#64 [] k0 (Xy p3 (Qs 53#8) 0#64)) vy8 (.slice none 0 0))∧Kz [(1,f)] y wr) (fun⟨n1,a6,a7,vy8,zy8,gy8⟩=>n1) ⟨Xb,0,[],(.slice none 0 0),0,0⟩ ?_ ?_ ?_
 · exact Ql
 · exact⟨hm,(Zi _ 0 139 18),⟨(.inl rfl)⟩,af,Kz.refl _ _⟩
 clear hm;rintro⟨n1,a6,a7,vy8,zy8,gy8⟩ bC ⟨hm,g,d,j,o⟩
 have bD:=o.size
 have C:=g.lth
 have a5:=j.lt
 have hb:=Kl hm;clear hm;obtain⟨n1,rfl,hm⟩:=hb
 generalize P:Qv (Oj p0 p2 p3 x2) n1=a8 at hm
 unfold Oj at hm
 try dsimp only at hm
 refine qs 1 rfl<|qv rfl (Jv (a:=a6) (b:=(p2.length:Int)) rfl rfl)<|Qa<|Qe<|Kx hm rfl (fun c4 hm=>?_) (fun c4 hm=>?_)
 · refine Jl<|Xu<|Xu<|Jk<|Xl<|qs 3 rfl ?_
   refine qv rfl (Xa Jr rfl j rfl) ?_
   have Y8:=Gr.trans G5 Y6
   have aL:=(((((B.gr Y8).md n).gr Y7).md q).kz o)
   refine qe rfl (Xf Jr rfl rfl (Qy.cs_ones _ _ _ (Qg.oneB g) rfl) aL rfl rfl) ?_
   rintro _ bE ⟨ah,Q⟩
   have bF:=Q.size
   refine qm rfl<|Qa<|Qq ?_
   have aM:=(g.md Q (Qr d))
   have aN:=((aK.kz o).md Q)
   cases hm
   exact⟨_,_,rfl,Za rfl (Zf Jr rfl ah rfl) (Qn rfl),vy8,zy8,gy8,(.slice none 0 0),0,0,rfl,aM,⟨(Xm (A:=(fun x=>w.heap.size≤x)) d)⟩,(Zi _ 0 60 2),⟨.inl rfl⟩,⟨(.inl rfl)⟩,aN⟩
 refine qu<|Qe<|Xn<|qs 4 rfl ?_
 obtain⟨y9,ai,hm⟩:=Qd hm
 have aj:=(ag.kz o (Qb (Qw (b:=f) M)))
 refine qv rfl (Yq (i:=a6) Tryz.underlying101 (Nd).siz rfl aj rfl ai)<|qv rfl (Qe2 Nd rfl aj ai (by first|rfl|omega))<|qe rfl (Xg (cs:=Qx.cs (Qx.mk 0 0)) Qiv rfl) ?_
 rintro _ bG ⟨ak,rfl,aO,H,s⟩
 have bH:=s.size
 have a9:=H.lt
 refine qe rfl (Xf Nd rfl rfl rfl H rfl rfl) ?_
 rintro _ bI ⟨al,t⟩
 have bJ:=t.size
 refine Qa<|dw [([f]++zf zy8 gy8),([]++zf zy8 gy8)] [(13,[1])] (.leaf [(0,10),(1,11),(2,10),(3,10),(4,10),(5,10),(7,10),(6,0),(8,0),(9,10),(10,0),(11,0),(12,10),(13,0)]) ?_
 intro h u ba
 refine Zz<|qh 0 rfl rfl (Kp.refl ([f]++zf zy8 gy8) h) (fun w hS=>Qh Ux rfl) ?_
 have am:=(((j.gr s).md t).gr u)
 refine qh 1 rfl rfl (Kp.refl ([]++zf zy8 gy8) h) (fun w hS=>Qi (v:=vy8) Cd rfl (Bx.kp am hS (Qb (Qr (b:=f) d))) rfl) ?_
 have an:=(al.gr u)
 refine qh 0 rfl rfl (Kp.refl ([f]++zf zy8 gy8) h) (fun w hS=>Xa Nd rfl (Bx.kp an hS (Qb (Qw (b:=ak) C))) rfl) ?_
 have aP:=((((((Z.gr Y7).md q).kz o).gr s).md t).gr u)
 refine qh 0 rfl rfl (Kp.refl ([f]++zf zy8 gy8) h) (fun w hS=>Xa Ki rfl (Bx.kp aP hS (Qb (Qr (b:=b9) d))) rfl) ?_
 have Y9:=Gr.trans (Gr.trans (Gr.trans G2 Y1) G5) Y6
 have aQ:=((((((((U.gr Y9).md n).gr Y7).md q).kz o).gr s).md t).gr u)
 refine qh 0 rfl rfl (Kp.refl ([f]++zf zy8 gy8) h) (fun w hS=>Xa Xk rfl (Bx.kp aQ hS (Qb (Qr (b:=b1) d))) rfl)<|qh 0 rfl rfl (Kp.refl ([f]++zf zy8 gy8) h) (fun w hS=>Xa Nd rfl (Bx.kp an hS (Qb (Qw (b:=ak) C))) rfl) ?_
 have aR:=((((((ac.gr Y7).md q).kz o).gr s).md t).gr u)
 refine qh 0 rfl rfl (Kp.refl ([f]++zf zy8 gy8) h) (fun w hS=>Xa Xk rfl (Bx.kp aR hS (Qb (Qr (b:=b3) d))) rfl) ?_
 obtain⟨D,ao,hm⟩:=Qd hm
 refine qz [] rfl (eC Qpk rfl (Qp2 ao)) ⟨fun _=>Qf,fun _=>Qf,trivial⟩ ?_
 rintro _ bK ⟨rfl,R⟩
 have bL:=R.size
 refine kG R<|qz [] rfl (eC Qcn rfl (Qfe D p3 _)) ⟨fun _=>Qf,fun _=>Qf,trivial⟩ ?_
 rintro _ bM ⟨rfl,S⟩
 have bN:=S.size
 refine kG S ?_
 have E:=Gr.trans R S
 have ap:=((Kp.refl ([f]++zf zy8 gy8) h).gr E)
 refine qh 0 rfl rfl ap (fun w hS=>Zk (cs:=Zr.cs (Zr.mk y9 (Wz D p3))) Qwk rfl (by obtain⟨aI,O⟩:=Ur (Wz D p3);rw[←O];exact(Vz rfl rfl rfl (Vz rfl rfl rfl (by kernel_rfl)))))<|qz [] rfl (Ha [(Zr.mk y9 (Wz D p3))] Zr.cs Qwt rfl rfl (Pc rfl) rfl rfl rfl) ⟨fun _=>Qf,fun _=>Qf,trivial⟩ ?_
 rintro bb bO ⟨bc,aS,I,z⟩
 have bP:=z.size
 have bd:=I.lth
 refine kG z ?_
 have aT:=(((((g.gr s).md t (Qw C)).gr u).gr E).gr z)
 obtain⟨aq,ar,hm⟩:=Qd hm
 refine qz [(zy8,gy8)] rfl (Nk (l:=a7) (m:=[(Zr.mk y9 (Wz D p3))]) (c:=Zr.cs) Qvy rfl rfl aT (Qg.rd I) ar (by decide)) ⟨fun _=>(Qb (Qf:zy8=0∨(gy8=gy8∧zy8≠0)∨h.heap.size≤gy8)),fun _=>(Qb (Qf:zy8=0∨(gy8=gy8∧zy8≠0)∨h.heap.size≤gy8)),trivial⟩ ?_
 rintro J bQ ⟨au,av,K,p,bf,L⟩
 have bR:=p.size
 refine⟨Kz.ofKa p,?_⟩
 have aU:=((ap.gr z).ka p (Qb (Qf:zy8=0∨(gy8=gy8∧zy8≠0)∨h.heap.size≤gy8)))
 refine qh 0 rfl rfl aU (fun w hS=>Qh Ux rfl) ?_
 have aV:=(((am.gr E).gr z).ka p (Qb (Qr (b:=f) d)))
 refine qz [(1,f)] rfl (Zp (cs':=Qy.cs (Qy.mk aq 0#64 [] k0 (Xy p3 (Qs 53#8) 0#64)) J (.slice none 0 0)) (Cd).siz rfl rfl (Qg.oneB K) aV rfl rfl) ⟨fun _=>Qf,nofun,trivial⟩ ?_
 rintro _ aW ⟨aw,F⟩
 have bS:=F.size
 refine kM F<|Qk<|Xh<|Xl<|qg 2 rfl<|qv rfl (Zd (k:=.i64) (a:=a6) (b:=1) rfl rfl)<|qm rfl ?_
 refine Qk ?_
 have K_56:Kz [(1,f)] y aW:=(((((((o.gr s).md t).gr u).gr E).gr z).ka p (Qb (Xm (A:=(fun x=>y.heap.size≤x)) d))).md F)
 have aX:=(K.md F (Nt L (Qr d)))
 subst P
 exact⟨rfl,⟨n1,Qc (a6+1),aq,J,au,av⟩,Ql,⟨hm,aX,⟨(Tq (A:=(fun x=>y.heap.size≤x)) L (Xm (A:=(fun x=>y.heap.size≤x)) d))⟩,aw,K_56⟩,Nat.lt_succ_self _⟩
theorem Qx7 {p0 r}(hm:Io p0=some r){w:World}:
 Calls Tryz.prog 153 [kv p0].toArray w fun e w'=>∃ v,e=.returned v∧(v=.agg (Vv.cs r).toArray∧Gr w w'):=by
 unfold Io at hm
 refine Xi 29 Tryz.func153 rfl rfl rfl<|qs 2 rfl<|qe rfl (Xo (cs:=kb p0) rfl rfl) ?_
 rintro _ w1 ⟨b1,rfl,A,l,G1⟩
 have z1:=G1.size
 have E:=l.lt
 refine qe rfl (Xg (cs:=Vv.cs (Vv.mk 0#64 0#64)) Rn rfl) ?_
 rintro _ w2 ⟨b2,rfl,B,m,G2⟩
 have z3:=G2.size
 have F:=m.lt
 refine qd 1 rfl<|qe rfl (Xg (cs:=Vv.cs (Vv.mk 0#64 0#64)) Rn rfl) ?_
 rintro _ w3 ⟨b3,rfl,C,n,G3⟩
 have z5:=G3.size
 have G:=n.lt
 refine Qa<|Qe<|qs 1 rfl<|qm rfl<|Qa<|Xn ?_
 have X7:=((((Gr.refl w).trans G1).trans G2).trans G3)
 refine Kf (α:=Nat × Int × BitVec 64 × BitVec 64) (rg 4 24) (fun⟨n1,a4,a5,a6⟩=>[(5,.int .i64 a4)]) (fun⟨n1,a4,a5,a6⟩ wr=>(Qv (It p0) n1 (a4,a5,a6)=some r)∧Bx wr b3 227 (Vv.cs (Vv.mk a5 a6))∧Kz [(1,b3)] w3 wr) (fun⟨n1,a4,a5,a6⟩=>n1) ⟨Xb,0,0#64,0#64⟩ ?_ ?_ ?_
 · exact Ql
 · exact⟨hm,n,Kz.refl _ _⟩
 clear hm;rintro⟨n1,a4,a5,a6⟩ w4 ⟨hm,d,K4⟩
 have z8:=K4.size
 have H:=d.lt
 have hb:=Kl hm;clear hm;obtain⟨n1,rfl,hm⟩:=hb
 generalize g:Qv (It p0) n1=D at hm
 unfold It at hm
 try dsimp only at hm
 refine qs 1 rfl<|qv rfl (Jv (a:=a4) (b:=8) rfl rfl)<|Qa<|Qe<|Kx hm rfl (fun c1 hm=>?_) (fun c1 hm=>?_)
 · refine Jl<|Xu<|Xu<|Jk<|Xl<|qs 2 rfl ?_
   refine qv rfl (Xa Pz rfl d rfl) ?_
   have s:=((m.gr G3).kz K4)
   refine qe rfl (Xf Pz rfl rfl rfl s rfl rfl) ?_
   rintro _ w8 ⟨t,M8⟩
   have I:=M8.size
   refine Qa<|Qq ?_
   have u:=((X7.kz K4).md M8)
   cases hm
   exact⟨_,_,rfl,Qz rfl (Zf Pz rfl t rfl),rfl,u⟩
 refine qu<|Qe<|Xn<|qs 2 rfl<|qm rfl ?_
 refine qm rfl<|Qa<|dw [([b3]),([])] [(18,[1]),(20,[1])] (.leaf [(0,10),(1,11),(2,10),(3,10),(4,10),(5,10),(6,10),(7,10),(8,10),(9,11),(10,10),(11,10),(12,10),(13,10),(14,10),(15,10),(16,10),(17,10),(18,0),(19,10),(20,0)]) ?_
 intro w5 G5 J
 refine Zz<|dh 0 rfl rfl (fun w hS=>Qh Uu rfl) ?_
 have h:=(d.gr G5)
 refine dh 1 rfl rfl (fun w hS=>Qi (v:=wv a5) Zw rfl (Bx.kp h hS) rfl) ?_
 obtain⟨nn7,hnn7,hm⟩:=Qd hm
 refine dh 0 rfl rfl (fun w hS=>Qvh (c:=a5) (b:=(un 8#64)) rfl rfl hnn7)<|dm 0 rfl rfl ?_
 obtain⟨y8,o,hm⟩:=Qd hm
 refine dh 0 rfl rfl (fun w hS=>Qe4 (i:=a4) (p:=p0) Tryz.underlying39 (Zb).siz rfl rfl o) ?_
 have q:=((((l.gr G2).gr G3).kz K4).gr G5)
 refine dh 0 rfl rfl (fun w hS=>Qil (off:=0) (p:=p0) (i:=a4) Zb rfl (Bx.kp q hS) rfl o (by omega))<|dh 0 rfl rfl (fun w hS=>Qik Bf rfl)<|dh 0 rfl rfl (fun w hS=>Qbq (a:=a5 <<< nn7) (b:=y8.setWidth 64) rfl rfl)<|dh 0 rfl rfl (fun w hS=>Qh Sy rfl)<|dh 1 rfl rfl (fun w hS=>Qi (v:=wv a6) Zw rfl (Bx.kp h hS) rfl) ?_
 obtain⟨nn9,hnn9,hm⟩:=Qd hm
 refine dh 0 rfl rfl (fun w hS=>Qvh (c:=a6) (b:=(un 8#64)) rfl rfl hnn9)<|dm 0 rfl rfl<|dh 0 rfl rfl (fun w hS=>Zd (k:=.i64) (a:=8) (b:=a4) rfl rfl) ?_
 obtain⟨j,f,hm⟩:=Qd hm
 refine dh 0 rfl rfl (fun w hS=>Qe4 (i:=Qc (8+a4)) (p:=p0) Tryz.underlying39 (Zb).siz rfl rfl f)<|dh 0 rfl rfl (fun w hS=>Qil (off:=0) (p:=p0) (i:=Qc (8+a4)) Zb rfl (Bx.kp q hS) rfl f (by omega))<|dh 0 rfl rfl (fun w hS=>Qik Bf rfl)<|dh 0 rfl rfl (fun w hS=>Qbq (a:=a6 <<< nn9) (b:=j.setWidth 64) rfl rfl)<|dh 0 rfl rfl (fun w hS=>Qh Uu rfl)<|qz [(1,b3)] rfl (Zp (cs':=Vv.cs (Vv.mk ((a5 <<< nn7) ||| (y8.setWidth 64)) a6)) (Zw).siz rfl rfl rfl h rfl rfl) ⟨fun _=>Qf,nofun,trivial⟩ ?_
 rintro _ w6 ⟨x,M6⟩
 have K:=M6.size
 refine kM M6 ?_
 have y:=((Kp.refl ([b3]) w5).md M6)
 refine qh 0 rfl rfl y (fun w hS=>Qh Sy rfl)<|qz [(1,b3)] rfl (Zp (cs':=Vv.cs (Vv.mk ((a5 <<< nn7) ||| (y8.setWidth 64)) ((a6 <<< nn9) ||| (j.setWidth 64)))) (Zw).siz rfl rfl rfl x rfl rfl) ⟨fun _=>Qf,nofun,trivial⟩ ?_
 rintro _ w7 ⟨z,M7⟩
 have L:=M7.size
 refine kM M7<|Qk<|Xh<|Xl<|qg 2 rfl<|qv rfl (Zd (k:=.i64) (a:=a4) (b:=1) rfl rfl)<|qm rfl ?_
 refine Qk ?_
 have K_15:Kz [(1,b3)] w3 w7:=(((K4.gr G5).md M6).md M7)
 subst g
 exact⟨rfl,⟨n1,Qc (a4+1),(a5 <<< nn7) ||| (y8.setWidth 64),(a6 <<< nn9) ||| (j.setWidth 64)⟩,Ql,⟨hm,z,K_15⟩,Nat.lt_succ_self _⟩
theorem Qot {p0 p1 p2 r}(hm:Mq p0 p1 p2=some r){w:World}:
 Calls Tryz.prog 118 [kv p0,wv p1,wv p2].toArray w fun e w'=>∃ v,e=.returned v∧(v=wv r∧Gr w w'):=by
 unfold Mq at hm
 refine Xi 16 Tryz.func118 rfl rfl rfl<|qs 2 rfl<|qe rfl (Xo (cs:=kb p0) rfl rfl) ?_
 rintro _ w1 ⟨b1,rfl,g,a,G1⟩
 have z1:=G1.size
 have h:=a.lt
 refine qm rfl<|Qa<|Qe<|qs 2 rfl<|qm rfl<|qv rfl (Qe3 (c:=p2) (d:=0#64) rfl rfl) ?_
 refine Qa<|Zv hm rfl (fun c1 hm=>?_) (fun c1 hm=>?_)
 · refine qs 1 rfl<|qm rfl<|qb ?_
   have X3:=((Gr.refl w).trans G1)
   cases hm
   exact⟨_,_,rfl,Qz rfl (Qn rfl),rfl,X3⟩
 refine qu<|qs 8 rfl<|qv rfl (Xa Xk rfl a rfl)<|qm rfl<|qe rfl (eC Dg rfl (Dd p0 (Qs 3#8) (Hv _) (Hu _) p1 _)) ?_
 rintro _ w2 ⟨rfl,G2⟩
 have z4:=G2.size
 obtain⟨x1,b,hm⟩:=Qd hm
 refine qe rfl (eC Qf2 rfl (Qx7 b)) ?_
 rintro _ w3 ⟨rfl,G3⟩
 have z5:=G3.size
 refine qv rfl (Xhf (v:=wv x1.x) Xaf rfl rfl)<|qm rfl ?_
 obtain⟨x2,f,hm⟩:=Qd hm
 refine qv rfl (Sb (c:=x1.x) (d:=p2) rfl rfl f)<|qm rfl<|Qa<|Qq ?_
 have X6:=((((Gr.refl w).trans G1).trans G2).trans G3)
 cases hm
 exact⟨_,_,rfl,Qz rfl (Qn rfl),rfl,X6⟩
theorem Qb8 {p0 p1 r}(hm:Cg p0 p1=some r){w:World}:
 Calls Tryz.prog 109 [kv p0,.agg (Qj.cs p1).toArray].toArray w fun e w'=>∃ v,e=.returned v∧(∃ ur0_s zr0_s gr0_s,v=ur0_s∧Qg w' zr0_s gr0_s 22 1 ur0_s (r.map Dn)∧Xd (zr0_s=0∨w.heap.size≤gr0_s)∧Gr w w'):=by
 unfold Cg at hm
 refine Xi 31 Tryz.func109 rfl rfl rfl<|qs 3 rfl<|qe rfl (Xo (cs:=kb p0) rfl rfl) ?_
 rintro _ w1 ⟨b1,rfl,H,p,G1⟩
 have z1:=G1.size
 have P:=p.lt
 refine qe rfl (Xo (cs:=Qj.cs p1) rfl rfl) ?_
 rintro _ w2 ⟨b2,rfl,I,s,G2⟩
 have z3:=G2.size
 have R:=s.lt
 refine qm rfl<|qd 4 rfl ?_
 have B5:=(p.gr G2)
 refine qv rfl (Xa Xk rfl B5 rfl)<|qe rfl (eC Dg rfl (Dd p0 (Qs 40#8) (Hv _) (Hu _) 0#64 _)) ?_
 rintro _ w3 ⟨rfl,G3⟩
 have z6:=G3.size
 refine qe rfl (Xg (cs:=kb k0) Yr rfl) ?_
 rintro _ w4 ⟨b4,rfl,J,t,G4⟩
 have z7:=G4.size
 have S:=t.lt
 refine qe rfl (Xf Xk rfl rfl rfl t rfl rfl) ?_
 rintro _ w5 ⟨y,M5⟩
 have z9:=M5.size
 refine qd 5 rfl<|qv rfl (Qh Bo rfl) ?_
 have u:=(((s.gr G3).gr G4).md M5)
 refine qv rfl (Qi (v:=.int .i64 p1.Degree) Qm rfl u rfl)<|qv rfl (Zd (k:=.i64) (a:=p1.Degree) (b:=1) rfl rfl) ?_
 obtain⟨l1,z,hm⟩:=Qd hm
 refine qe rfl (Qqk (c:=Dn) (a:=0#64) Qvw Qns rfl ⟨rfl,rfl⟩ rfl z (by decide)) ?_
 rintro g w6 ⟨d,K,h,G6⟩
 have T:=G6.size
 have L:=h.lth
 refine qm rfl<|Qa<|Qe<|qs 3 rfl<|qm rfl<|qv rfl (Kq (l:=l1) (c:=Dn) Tryz.underlying185 rfl (Qg.rd h)) ?_
 refine qm rfl<|Qa<|Xn ?_
 have B:=(((((((Gr.refl w).trans G1).trans G2).trans G3).trans G4).md M5).trans G6)
 refine Kf (α:=Nat × List (BitVec 64) × Int) ([6,7]++rg 16 14) (fun⟨n1,a5,a7⟩=>[(6,g),(16,.int .i64 a7)]) (fun⟨n1,a5,a7⟩ wr=>(Qv (Qb7 p0 p1 l1) n1 (a5,a7)=some r)∧Qg wr 1 d 22 1 g (a5.map Dn)∧Xd (1=0∨(d=d∧1≠0)∨w6.heap.size≤d)∧Kz [(1,d)] w6 wr) (fun⟨n1,a5,a7⟩=>n1) ⟨Xb,l1,0⟩ ?_ ?_ ?_
 · exact Ql
 · exact⟨hm,h,⟨Qf⟩,Kz.refl _ _⟩
 clear hm;rintro⟨n1,a5,a7⟩ w7 ⟨hm,f,j,K7⟩
 have U:=K7.size
 have M:=f.lth
 have hb:=Kl hm;clear hm;obtain⟨n1,rfl,hm⟩:=hb
 generalize m:Qv (Qb7 p0 p1 l1) n1=N at hm
 unfold Qb7 at hm
 try dsimp only at hm
 refine qs 1 rfl<|qv rfl (Jv (a:=a7) (b:=(l1.length:Int)) rfl rfl)<|Qa<|Qe<|Kx hm rfl (fun c1 hm=>?_) (fun c1 hm=>?_)
 · refine Jl<|Xu<|Xu<|Jk<|Xl<|qs 2 rfl ?_
   refine qn 2 rfl<|Qa<|Qq ?_
   have C:=(B.kz K7 (Qb ((.inr Qf):1=0∨w.heap.size≤d)))
   cases hm
   exact⟨_,_,rfl,Qz rfl (Qn rfl),g,1,d,rfl,f,⟨(Qp (A:=(fun x=>w.heap.size≤x)) j (.inr Qf))⟩,C⟩
 refine qu<|Qe<|Xn<|qs 2 rfl<|qm rfl ?_
 refine qm rfl<|Qa<|qg 11 rfl<|qn 2 rfl ?_
 have D:=((y.gr G6).kz K7 (Qb ((.inr Qf):1=0∨d≠b4)))
 refine qv rfl (Xa Xk rfl D rfl)<|qm rfl<|qv rfl (Ww Wu rfl)<|qv rfl (Qh Fa rfl)<|qv rfl (Qh Bn rfl) ?_
 have E:=((u.gr G6).kz K7 (Qb ((.inr Qf):1=0∨d≠b2)))
 refine qv rfl (Qi (v:=wv p1.Group.Q) Zw rfl E rfl) ?_
 obtain⟨x8,F,hm⟩:=Qd hm
 refine qe rfl (eC Qpn rfl (Qot F)) ?_
 rintro _ w8 ⟨rfl,G8⟩
 have V:=G8.size
 obtain⟨y9,n,hm⟩:=Qd hm
 have o:=(f.gr G8)
 refine qv rfl (Yq (i:=a7) Tryz.underlying185 (Zw).siz rfl (Qg.rd o) rfl n) ?_
 have O:=Qg.z1 o n
 refine qe rfl (Pj (i:=a7) (q:=0) (a':=x8) (vs:=[wv x8]) (c:=Dn) (Zw).siz rfl rfl rfl rfl rfl o n (by first|rfl|omega) rfl rfl ⟨rfl,rfl⟩) ?_
 rintro _ w9 ⟨G,M9⟩
 have W:=M9.size
 refine Qk<|Xh<|Xl<|qg 2 rfl<|qv rfl (Zd (k:=.i64) (a:=a7) (b:=1) rfl rfl)<|qm rfl<|Qk ?_
 have K_22:Kz [(1,d)] w6 w9:=((K7.gr G8).md M9 (Qb (Qf:1=0∨(d=d∧1≠0)∨w6.heap.size≤d)))
 subst m
 exact⟨rfl,⟨n1,a5.set a7.toNat x8,Qc (a7+1)⟩,Ql,⟨hm,G,⟨Qf⟩,K_22⟩,Nat.lt_succ_self _⟩
theorem Xdc {p0 r}(hm:Qgg p0=some r){w:World}:
 Calls Tryz.prog 188 [wv p0].toArray w fun e w'=>∃ v,e=.returned v∧(v=.bool r∧Gr w w'):=by
 unfold Qgg at hm
 refine Xi 9 Tryz.func188 rfl rfl rfl<|qs 1 rfl<|qm rfl<|qd 7 rfl ?_
 refine qm rfl<|qv rfl (Qv8 (c:=p0) (d:=1#64) rfl rfl)<|Ji hm rfl (Qt rfl) (fun c1 hm=>?_) (fun c1 hm=>?_)
 · refine qm rfl<|qv rfl (Qnh (c:=p0) (d:=4294967296#64) rfl rfl)<|qn 2 rfl<|Qa<|Qq ?_
   cases hm
   exact⟨_,_,rfl,Qz rfl (Qn rfl),rfl,(Gr.refl w)⟩
 refine qn 4 rfl<|Qa<|Qq ?_
 cases hm
 exact⟨_,_,rfl,Qz rfl (Qn rfl),rfl,(Gr.refl w)⟩
theorem Xdb {p0 p1 p2 r}(hm:Qd6 p0 p1 p2=some r){w:World}:
 Calls Tryz.prog 158 [wv p0,wv p1,wv p2].toArray w fun e w'=>∃ v,e=.returned v∧(v=.tuple [wv r.1,.int .i64 r.2].toArray∧Gr w w'):=by
 unfold Qd6 at hm
 refine Xi 15 Tryz.func158 rfl rfl rfl<|qs 2 rfl<|qn 2 rfl<|Qa<|Qe ?_
 refine qs 3 rfl<|qm rfl ?_
 obtain⟨x1,a,hm⟩:=Qd hm
 refine qe rfl (eC Qyv rfl (Xdc a)) ?_
 rintro _ w1 ⟨rfl,G1⟩
 have z1:=G1.size
 refine qv rfl (Kd rfl)<|Qa<|Jo hm rfl (fun c1 hm=>?_) (fun c1 hm=>?_)
 · refine qs 2 rfl<|qn 2 rfl<|Qa<|Qq<|Xz ?_
   have X2:=((Gr.refl w).trans G1)
   cases hm
   exact⟨_,_,rfl,Za rfl (Qn rfl) (Qn rfl),rfl,X2⟩
 refine qu<|qs 6 rfl<|qn 3 rfl ?_
 obtain⟨x2,b,hm⟩:=Qd hm
 refine qe rfl (eC Qps rfl (Qsf b)) ?_
 rintro _ w2 ⟨rfl,G2⟩
 have z3:=G2.size
 refine qn 2 rfl<|Qa<|Qq ?_
 have X4:=(((Gr.refl w).trans G1).trans G2)
 cases hm
 exact⟨_,_,rfl,Za rfl (Qn rfl) (Qn rfl),rfl,X4⟩
theorem Qlz {p0 p1 p2 r}(hm:Qb6 p0 p1 p2=some r){w:World}:
 Calls Tryz.prog 112 [.agg (Qj.cs p0).toArray,wv p1,wv p2].toArray w fun e w'=>∃ v,e=.returned v∧(v=wv r∧Gr w w'):=by
 unfold Qb6 at hm
 refine Xi 19 Tryz.func112 rfl rfl rfl<|qs 2 rfl<|qe rfl (Xo (cs:=Qj.cs p0) rfl rfl) ?_
 rintro _ w1 ⟨b1,rfl,c,a,G1⟩
 have z1:=G1.size
 have d:=a.lt
 refine qm rfl<|qd 11 rfl<|qn 2 rfl<|qv rfl (Qh Fa rfl) ?_
 refine qv rfl (Qh Qcv rfl)<|qv rfl (Qi (v:=wv p0.Group.P) Zw rfl a rfl) ?_
 obtain⟨x1,b,hm⟩:=Qd hm
 refine qe rfl (eC Qyr rfl (Xdb b)) ?_
 rintro _ w2 ⟨rfl,G2⟩
 have z3:=G2.size
 refine qn 5 rfl<|Qa<|Qe ?_
 refine qg 2 rfl<|qn 2 rfl<|Qa<|Qq ?_
 have X4:=(((Gr.refl w).trans G1).trans G2)
 cases hm
 exact⟨_,_,rfl,Qz rfl (Qn rfl),rfl,X4⟩
theorem Xfo {p0 vp0 zp0 gp0 op0 r}(hm:Qi7 p0=some r){w:World}(a:Rd w zp0 gp0 op0 1 vp0 (p0.map Dn)):
 Calls Tryz.prog 156 [vp0].toArray w fun e w'=>∃ v,e=.returned v∧(∃ bc0 uc0_s zc0_s gc0_s oc0_s,v=.func (.func 187) #[] [.pointer (some ⟨bc0,0,none⟩)].toArray∧Bx w' bc0 185 ([uc0_s])∧(w.heap.size≤bc0)∧Rd w' zc0_s gc0_s oc0_s 1 uc0_s (r.map Dn)∧Xd (zc0_s=0∨(gc0_s=gp0∧zp0≠0)∨w.heap.size≤gc0_s)∧Gr w w'):=by
 have d:=a.lth
 unfold Qi7 at hm
 refine Xi 4 Tryz.func156 rfl rfl rfl<|qs 2 rfl<|qe rfl (Xo (cs:=[vp0]) rfl (Qon (Rd.oneB a))) ?_
 rintro _ w1 ⟨b1,rfl,c,b,G1⟩
 have z2:=G1.size
 have f:=b.lt
 refine qm rfl<|qd 2 rfl<|qv rfl (Tu rfl rfl)<|qm rfl<|Qa ?_
 refine Qq ?_
 have B4:=(a.gr G1)
 have X5:=((Gr.refl w).trans G1)
 cases hm
 exact⟨_,_,rfl,Qz rfl (Qn rfl),b1,vp0,zp0,gp0,op0,rfl,b,by omega,B4,⟨Qf⟩,X5⟩
theorem Xfn (p1:List (BitVec 64))(bp1:Nat)(vp1_0:Value)(zp1_0 gp1_0 op1_0:Nat)(xs:List (Int × BitVec 64))(hm:Qi6 p1=some xs)(w0:World)(hbp1:Bx w0 bp1 185 ([vp1_0]))(m:Rd w0 zp1_0 gp1_0 op1_0 1 vp1_0 (p1.map Dn)):
 IT Tryz.prog 187 [.pointer (some ⟨bp1,0,none⟩)] (xs.map (fun(x:Int × BitVec 64)=>([.int .i64 x.1,wv x.2]:List Value))) (zf zp1_0 gp1_0++[bp1]) w0:=by
 intro l J Jx w fp hG hJ hJx hcap h0 hY
 have c1:=Rd.gr m hG
 have E:=c1.lth
 have y:zp1_0=0∨gp1_0∉fp:=by by_cases hz:zp1_0=0;exact .inl hz;exact .inr (hcap _ (by simp[Xt,hz]))
 have c4:=Bx.gr hbp1 hG
 have F:=c4.lt
 have z:bp1∉fp:=hcap _ (by simp)
 have hd:=Qcm xs
 unfold Qi6 at hm
 refine Xi 19 Tryz.func187 rfl rfl rfl<|qs 4 rfl<|qv rfl (Qi (v:=vp1_0) Fu rfl c4 rfl)<|qv rfl (Kq (l:=p1) (c:=Dn) Tryz.underlying185 rfl c1)<|qv rfl (Vx (k:=.i64) (a:=(p1.length:Int)) (b:=1) rfl rfl)<|qm rfl ?_
 refine Qa<|Xn<|Kf (α:=Nat × Int × Nat × List Nat × List (Int × BitVec 64)) ([3]++rg 7 12) (fun⟨n1,a2,kk,fpl,rl⟩=>[(3,.int .i64 a2)]) (fun⟨n1,a2,kk,fpl,rl⟩ wr=>(Qv (Ai p1) n1 a2=some rl)∧Dr xs kk rl∧J kk fpl wr∧(∀ c∈fpl,c∈fp∨w.heap.size≤c)∧Kp fp w wr∧Rd wr zp1_0 gp1_0 op1_0 1 vp1_0 (p1.map Dn)∧Bx wr bp1 185 ([vp1_0])∧(zp1_0=0∨gp1_0∉fpl)∧bp1∉fpl∧True) (fun⟨n1,a2,kk,fpl,rl⟩=>n1) ⟨Xb,Qc ((p1.length:Int)-1),0,fp,xs⟩ ?_ ?_ ?_
 · exact Ql
 · exact⟨hm,hd,h0,(fun c hc=>Or.inl hc),(Kp.refl fp w),c1,c4,y,z,trivial⟩
 clear hm;rintro⟨n1,a2,n,fpl1,rl1⟩ w1 ⟨hm,dl1,JLw1,sl1,KLw1,d,e,g,h,-⟩
 have z7:=KLw1.size
 have A:=d.lth
 have G:=e.lt
 have hb:=Kl hm;clear hm;obtain⟨n1,rfl,hm⟩:=hb
 generalize p:Qv (Ai p1) n1=D at hm
 unfold Ai at hm
 try dsimp only at hm
 refine Qe<|qs 2 rfl<|qm rfl<|qv rfl (Wk (a:=a2) (b:=0) rfl rfl)<|Qa<|Kx hm rfl (fun c1 hm=>?_) (fun c1 hm=>?_)
 · refine Jl<|Xu<|Xu<|Jk ?_
   have he:=Option.some.inj hm
   have hl:=Dr.last (c:=(fun(x:Int × BitVec 64)=>([.int .i64 x.1,wv x.2]:List Value))) dl1 he.symm
   refine⟨_,_,rfl,Hj rfl,KLw1,.inl ⟨_,sl1,?_⟩⟩
   rw[←hl];exact JLw1
 refine qu<|Qe<|Xn<|qs 8 rfl<|qm rfl ?_
 refine qm rfl<|qv rfl (Qi (v:=vp1_0) Fu rfl e rfl)<|qm rfl ?_
 obtain⟨y3,r,hm⟩:=Qd hm
 refine qv rfl (Yq (i:=a2) Tryz.underlying185 (Zw).siz rfl d rfl r)<|qv rfl (Hl (q:=0) (u:=wv y3) Zw rfl d r (by first|rfl|omega) rfl) ?_
 obtain⟨rr10,hm,he10⟩:=Aq hm
 have j:=Dr.at dl1 he10
 have hd10:=Dr.next dl1 he10
 refine qe rfl (Bj rfl rfl (hY _ _ _ _ (Gu j) JLw1 KLw1 sl1)) ?_
 rintro _ w2 ⟨bb,rfl,KF10,f,hg10,hJb⟩
 have H:=KF10.size
 have sub10:∀ c∈f,c∈fp∨w.heap.size≤c:=Na sl1 hg10 (by omega)
 have s:=Xco hg10 g (by have:=A.o;omega)
 have t:=Ke hg10 h (by omega)
 cases bb
 · have Jy10:Jx (n+1) f w2:=hJb
   refine qv rfl (Kd rfl)<|Qa<|Nb rfl<|Qq<|Jf<|Xz<|Xz ?_
   refine Jf ?_
   have KI14:Kp fp w w2:=(KLw1.trans KF10 sl1)
   exact⟨_,_,rfl,Hj rfl,KI14,.inr ⟨_,_,sub10,(by rw[List.length_map];exact(List.getElem?_eq_some_iff.1 j).1),Jy10⟩⟩
 have Jy10:J (n+1) f w2:=hJb
 refine qv rfl (Kd rfl)<|Qa<|Ty rfl<|Jn<|Xh<|Xl<|qg 3 rfl ?_
 refine qm rfl<|qv rfl (Vx (k:=.i64) (a:=a2) (b:=1) rfl rfl)<|qm rfl<|Qk ?_
 have KI15:Kp fp w w2:=(KLw1.trans KF10 sl1)
 have B:=(Rd.kp d KF10 g)
 have C:=(Bx.kp e KF10 h)
 subst p
 exact⟨rfl,⟨n1,Qc (a2-1),(n+1),f,rr10⟩,Ql,⟨hm,hd10,Jy10,sub10,KI15,B,C,s,t,trivial⟩,Nat.lt_succ_self _⟩
theorem Xef {p0 p1 vp1 zp1 gp1 op1 r}(hm:Qdn p0 p1=some r){w:World}(f:Rd w zp1 gp1 op1 1 vp1 (p1.map Dn)):
 Calls Tryz.prog 114 [wv p0,vp1].toArray w fun e w'=>∃ v,e=.returned v∧(v=wv r∧Gr w w'):=by
 have n:=f.lth
 unfold Qdn at hm
 refine Xi 21 Tryz.func114 rfl rfl rfl<|qs 1 rfl<|qm rfl<|qd 1 rfl ?_
 refine qm rfl<|Qa<|Qe<|qs 3 rfl<|qm rfl<|qv rfl (Kq (l:=p1) (c:=Dn) Tryz.underlying184 rfl f) ?_
 refine qm rfl<|Qa<|Xn<|Kf (α:=Nat × BitVec 64 × Int) ([5,7]++rg 10 10) (fun⟨n1,a3,a4⟩=>[(5,wv a3),(10,.int .i64 a4)]) (fun⟨n1,a3,a4⟩ wr=>(Qv (Aa p0 p1) n1 (a3,a4)=some r)∧Kz [] w wr) (fun⟨n1,a3,a4⟩=>n1) ⟨Xb,1#64,0⟩ ?_ ?_ ?_
 · exact Ql
 · exact⟨hm,Kz.refl _ _⟩
 clear hm;rintro⟨n1,a3,a4⟩ w1 ⟨hm,K1⟩
 have z2:=K1.size
 have hb:=Kl hm;clear hm;obtain⟨n1,rfl,hm⟩:=hb
 generalize g:Qv (Aa p0 p1) n1=m at hm
 unfold Aa at hm
 try dsimp only at hm
 refine qs 1 rfl<|qv rfl (Jv (a:=a4) (b:=(p1.length:Int)) rfl rfl)<|Qa<|Qe<|Kx hm rfl (fun c1 hm=>?_) (fun c1 hm=>?_)
 · refine Jl<|Xu<|Xu<|Jk<|Xl<|qs 2 rfl ?_
   refine qn 2 rfl<|Qa<|Qq ?_
   have X5:=((Gr.refl w).kz K1)
   cases hm
   exact⟨_,_,rfl,Qz rfl (Qn rfl),rfl,X5⟩
 refine qu<|Qe<|Xn<|qs 3 rfl ?_
 obtain⟨y5,h,hm⟩:=Qd hm
 have B3:=(f.kz K1)
 refine qv rfl (Yq (i:=a4) Tryz.underlying184 (Zw).siz rfl B3 rfl h)<|qv rfl (Hl (q:=0) (u:=wv y5) Zw rfl B3 h (by first|rfl|omega) rfl)<|qm rfl<|Qa<|qg 6 rfl<|qn 2 rfl ?_
 refine qv rfl (Qe7 (a:=a3) (b:=y5) rfl rfl)<|qm rfl ?_
 obtain⟨x6,j,hm⟩:=Qd hm
 refine qv rfl (Sb (c:=a3*y5) (d:=p0) rfl rfl j)<|qm rfl<|Qk<|Xh<|Xl<|qg 2 rfl<|qv rfl (Zd (k:=.i64) (a:=a4) (b:=1) rfl rfl) ?_
 refine qm rfl<|Qk ?_
 have K_4:Kz [] w w1:=K1
 subst g
 exact⟨rfl,⟨n1,x6,Qc (a4+1)⟩,Ql,⟨hm,K_4⟩,Nat.lt_succ_self _⟩
theorem Qt0 {p0 p1 p2 vp0 zp0 gp0 op0 r}(hm:Qb4 p0 p1 p2=some r){w:World}(B:Rd w zp0 gp0 op0 1 vp0 (p0.map Dn)):
 Calls Tryz.prog 110 [vp0,wv p1,wv p2].toArray w fun e w'=>∃ v,e=.returned v∧(v=wv r∧Gr w w'):=by
 have C:=B.lth
 unfold Qb4 at hm
 refine Xi 24 Tryz.func110 rfl rfl rfl<|qs 3 rfl<|qe rfl (Xo (cs:=[wv p1]) rfl rfl) ?_
 rintro _ w1 ⟨b1,rfl,aj,D,G1⟩
 have z2:=G1.size
 have au:=D.lt
 refine qe rfl (Xo (cs:=[wv p2]) rfl rfl) ?_
 rintro _ w2 ⟨b2,rfl,ak,F,G2⟩
 have z4:=G2.size
 have av:=F.lt
 refine qm rfl<|qd 2 rfl<|qe rfl (Xg (cs:=[wv 0#64]) Qns rfl) ?_
 rintro _ w3 ⟨b3,rfl,al,G,G3⟩
 have z6:=G3.size
 have aw:=G.lt
 refine qe rfl (Zp (cs':=[wv 0#64]) (Zw).siz rfl rfl rfl G rfl rfl) ?_
 rintro _ w4 ⟨V,M4⟩
 have z8:=M4.size
 refine Qa<|Qe<|qs 2 rfl<|qm rfl ?_
 have B9:=((((B.gr G1).gr G2).gr G3).md M4 (Qw C))
 obtain⟨x1,X,hm⟩:=Qd hm
 refine qe rfl (eC Qyq rfl (Xfo X B9)) ?_
 rintro _ w5 ⟨H,u,y,z,A,rfl,g,I,f,j,G5⟩
 have ax:=G5.size
 have J:=f.lth
 have am:=g.lt
 refine Qa<|Xn ?_
 obtain⟨l2,Y,hm⟩:=Qd hm
 have Z:=((((((Gr.refl w).trans G1).trans G2).trans G3).md M4).trans G5)
 have ay:=(B9.gr G5)
 have aa:=((((D.gr G2).gr G3).md M4).gr G5)
 have ab:=(((F.gr G3).md M4).gr G5)
 have ac:=(V.gr G5)
 refine Rl (gf:=187) rfl Qyu (Xfn x1 _ _ _ _ _ _ Y _ g f) (by intro x hx;obtain⟨a,_,rfl⟩:=List.mem_map.1 hx;rfl) rfl _ (fun _ _ _ _=>False) ([b3]) (Sa (α:=BitVec 64) (fun a4 rk=>Js (Qb5 p1 p2) Qdo (List.drop rk l2) a4=some r) (fun a4=>([b3])) (fun a4 W=>Bx W b3 22 ([wv a4])∧True) (by rintro a4 W ⟨F0,_⟩ b hb;have q0:=F0.lt;replace hb:b∈([b3]):=hb;simp only[List.mem_cons,List.mem_append,Xt,List.not_mem_nil,or_false,false_or,not_or,ne_eq,List.nil_append,List.cons_append,true_and,and_true,false_and,and_false,not_true_eq_false,not_false_eq_true,or_true,true_or] at hb;omega) (by rintro a4 W W' ⟨F0,_⟩ E hs;replace hs:∀ b∈([b3]),W'.heap[b]? = W.heap[b]? := hs;exact⟨(hs _ (by simp)).trans F0,trivial⟩)) (fun _=>Al) (by intro b hb;have:=(Qo (b:=b3) j (Qw C));have:=J.o;simp only[List.mem_cons,List.mem_append,Xt,List.not_mem_nil,or_false,false_or,not_or,ne_eq,List.nil_append,List.cons_append,true_and,and_true,false_and,and_false,not_true_eq_false,not_false_eq_true,or_true,true_or] at hb ⊢;omega) ⟨0#64,hm,rfl,ac,trivial⟩ ?_ ?_ ?_
 · rintro l rk x fp w6 hl hx _ K6 hF hln Jc
   clear hm
   obtain⟨⟨e5,e6⟩,hxe,rfl⟩:=map_some hx
   have K:Kz [(1,b3)] w5 w6:=Ta K6 (by intro k hk;simp only[Zh,and_true,List.mem_cons,List.mem_append,Xt,List.not_mem_nil,or_false,false_or,not_or,ne_eq,List.nil_append,List.cons_append,true_and,and_true,false_and,and_false,not_true_eq_false,not_false_eq_true,or_true,true_or] at hk ⊢;omega)
   have az:=K6.size
   refine qg 1 rfl<|qm rfl<|Qk<|⟨rfl,(Gr.refl _),?_⟩
   rintro w7 M7 ⟨a4,hm,rfl,m,-⟩
   have aA:=M7.size
   have an:=m.lt
   replace hm:=Br hm hxe
   generalize hnx1:Js (Qb5 p1 p2) Qdo (List.drop (rk+1) l2)=aB at hm
   unfold Qb5 at hm
   try dsimp only at hm
   refine Xn<|dw [([b3]),([])] [(9,[1])] (.leaf [(0,10),(1,11),(2,10),(5,10),(7,10),(3,0),(4,0),(6,10),(8,10),(9,0)]) ?_
   intro w8 G8 aC
   refine Zz ?_
   have L:=(((aa.kz K).md M7).gr G8)
   refine dh 0 rfl rfl (fun w hS=>Qi (v:=wv p1) Fv rfl (Bx.kp L hS) rfl) ?_
   have M:=(m.gr G8)
   refine dh 1 rfl rfl (fun w hS=>Qi (v:=wv a4) Zw rfl (Bx.kp M hS) rfl) ?_
   have ad:=(((ab.kz K).md M7).gr G8)
   refine dh 0 rfl rfl (fun w hS=>Qi (v:=wv p2) Zw rfl (Bx.kp ad hS) rfl)<|dm 0 rfl rfl<|dh 0 rfl rfl (fun w hS=>Qi (v:=wv p1) Fv rfl (Bx.kp L hS) rfl)<|qz [] rfl (Ha [a4,p2] Dn Qwp rfl rfl (Pc rfl) rfl rfl rfl) ⟨fun _=>Qf,fun _=>Qf,trivial⟩ ?_
   rintro aD w9 ⟨aE,ao,N,G9⟩
   have aF:=G9.size
   have ap:=N.lth
   refine kG G9 ?_
   obtain⟨x7,ae,hm⟩:=Qd hm
   refine qz [] rfl (eC Qya rfl (Xef ae (Qg.rd N))) ⟨fun _=>Qf,fun _=>Qf,trivial⟩ ?_
   rintro _ aG ⟨rfl,n⟩
   have aH:=n.size
   refine kG n ?_
   have O:=(((Kp.refl ([b3]) w8).gr G9).gr n)
   refine qh 0 rfl rfl O (fun w hS=>Qe6 (a:=x7) (b:=e6) rfl rfl) ?_
   obtain⟨x8,af,hm⟩:=Qd hm
   refine qh 0 rfl rfl O (fun w hS=>Sb (c:=x7+e6) (d:=p1) rfl rfl af) ?_
   have ag:=((M.gr G9).gr n)
   refine qz [(1,b3)] rfl (Zp (cs':=[wv x8]) (Zw).siz rfl rfl rfl ag rfl rfl) ⟨fun _=>Qf,nofun,trivial⟩ ?_
   rintro _ P ⟨Q,t⟩
   have aI:=t.size
   refine kM t<|Qk<|Xh ?_
   have K_30:Kz [(1,b3)] w7 P:=((((Kz.gr (Kz.refl _ _) G8).gr G9).gr n).md t)
   have Kq30:Kp ([b3]) w7 P:=Lo K_30 (by intro k hk;simp only[Zh,and_true,List.mem_cons,List.mem_append,Xt,List.not_mem_nil,or_false,false_or,not_or,ne_eq,List.nil_append,List.cons_append,true_and,and_true,false_and,and_false,not_true_eq_false,not_false_eq_true,or_true,true_or] at hk ⊢;omega)
   subst hnx1
   exact⟨Kq30,([b3]),(by intro c hc;simp only[List.mem_cons,List.mem_append,Xt,List.not_mem_nil,or_false,false_or,not_or,ne_eq,List.nil_append,List.cons_append,true_and,and_true,false_and,and_false,not_true_eq_false,not_false_eq_true,or_true,true_or] at hc ⊢;omega),⟨x8,hm,rfl,Q,trivial⟩⟩
 · clear hm;rintro p fp s ah q R ⟨a4,hm,rfl,i,-⟩ S
   replace hm:=Bs hm
   have T:Kz [(1,b3)] w5 s:=Ta S (by intro k hk;simp only[Zh,and_true,List.mem_cons,List.mem_append,Xt,List.not_mem_nil,or_false,false_or,not_or,ne_eq,List.nil_append,List.cons_append,true_and,and_true,false_and,and_false,not_true_eq_false,not_false_eq_true,or_true,true_or] at hk ⊢;omega)
   have aJ:=S.size
   have aq:=Df.lt (w:=s) q
   simp only[List.mem_cons,List.mem_append,Xt,List.not_mem_nil,or_false,false_or,not_or,ne_eq,List.nil_append,List.cons_append,true_and,and_true,false_and,and_false,not_true_eq_false,not_false_eq_true,or_true,true_or,not_and] at R
   have ar:=i.lt
   unfold Qdo at hm
   try dsimp only at hm
   refine Xh<|Xl<|qs 2 rfl<|qv rfl (Qi (v:=wv a4) Zw rfl i rfl)<|qm rfl<|Qa ?_
   refine Qq ?_
   have DL34:=q
   have U:=Md.put (w:=s) p (.deferred none)
   have zL34:=U.size
   have ai:Gr w (s.putObj p (.deferred none)):=((Z.kz T).md U)
   cases hm
   refine⟨_,_,⟨p,rfl,DL34,rfl⟩,Qz rfl (Qn rfl),?_⟩
   exact⟨rfl,ai⟩
 rintro _ _ _ _ _ _ _ _ _ h _
 exact h.elim
theorem Qlx {p0 p1 p2 p3 p4 bp1 bp2 vp2_0 zp2_0 gp2_0 op2_0 vp2_2 zp2_2 gp2_2 op2_2 bp3 vp3_0 zp3_0 gp3_0 op3_0 bp4 r}(hm:Eu p0 p1 p2 p3 p4=some r){w:World}(hbp1:Bx w bp1 44 (Qj.cs p1))(hbp2:Bx w bp2 50 (Qy.cs p2 vp2_0 vp2_2))(b:Rd w zp2_0 gp2_0 op2_0 18 vp2_0 (p2.Items.map Zr.cs))(c:Rd w zp2_2 gp2_2 op2_2 2 vp2_2 (p2.Points.map Xq.cs))(hbp3:Bx w bp3 185 ([vp3_0]))(a:Rd w zp3_0 gp3_0 op3_0 1 vp3_0 (p3.map Dn))(hbp4:Bx w bp4 188 ([wv p4])):
 Calls Tryz.prog 119 [wv p0,.pointer (some ⟨bp1,0,none⟩),.pointer (some ⟨bp2,0,none⟩),.pointer (some ⟨bp3,0,none⟩),.pointer (some ⟨bp4,0,none⟩)].toArray w fun e w'=>∃ v,e=.returned v∧(v=wv r∧Gr w w'):=by
 have l:=hbp1.lt
 have m:=b.lth
 have n:=c.lth
 have o:=hbp2.lt
 have p:=a.lth
 have q:=hbp3.lt
 have s:=hbp4.lt
 unfold Eu at hm
 refine Xi 15 Tryz.func119 rfl rfl rfl<|qs 1 rfl<|qm rfl<|Qa<|Qe<|dw [([])] [] (.leaf [(0,10),(1,10),(2,10),(3,10),(4,10),(5,10),(6,0),(7,0),(8,10)]) ?_
 intro w1 G1 t
 refine Zz ?_
 have B8:=(hbp1.gr G1)
 refine dh 0 rfl rfl (fun w hS=>Xa Zq rfl (Bx.kp B8 hS) rfl)<|dh 0 rfl rfl (fun w hS=>Qh Qkd rfl) ?_
 have B9:=(hbp2.gr G1)
 refine dh 0 rfl rfl (fun w hS=>Qi (v:=wv p2.Base) Zw rfl (Bx.kp B9 hS) rfl) ?_
 have d:=(hbp3.gr G1)
 refine dh 0 rfl rfl (fun w hS=>Qi (v:=vp3_0) Fu rfl (Bx.kp d hS) rfl) ?_
 have f:=(hbp4.gr G1)
 refine dh 0 rfl rfl (fun w hS=>Qi (v:=wv p4) Fv rfl (Bx.kp f hS) rfl)<|dm 0 rfl rfl ?_
 have g:=(a.gr G1)
 obtain⟨x1,h,hm⟩:=Qd hm
 refine qz [] rfl (eC Qpm rfl (Qt0 h g)) ⟨fun _=>Qf,trivial⟩ ?_
 rintro _ w2 ⟨rfl,G2⟩
 have u:=G2.size
 refine kG G2 ?_
 obtain⟨x2,i,hm⟩:=Qd hm
 refine qz [] rfl (eC Qjp rfl (Qlz i)) ⟨fun _=>Qf,trivial⟩ ?_
 rintro _ w3 ⟨rfl,G3⟩
 have x:=G3.size
 refine kG G3 ?_
 have j:=(((Kp.refl ([]) w1).gr G2).gr G3)
 refine dn 0 rfl rfl j<|Qa<|Qq ?_
 have k:=((((Gr.refl w).trans G1).trans G2).trans G3)
 cases hm
 exact⟨_,_,rfl,Qz rfl (Qn rfl),rfl,k⟩
theorem Xeg {p0 r}(hm:Qly p0=some r){w:World}:
 Calls Tryz.prog 117 [wv p0].toArray w fun e w'=>∃ v,e=.returned v∧(v=kv r∧Gr w w'):=by
 unfold Qly at hm
 refine Xi 6 Tryz.func117 rfl rfl rfl<|qs 1 rfl<|qe rfl (Xg (cs:=kb k0) Yr rfl) ?_
 rintro _ w1 ⟨b1,rfl,c,a,G1⟩
 have z1:=G1.size
 have d:=a.lt
 refine qd 4 rfl<|qv rfl (Qe1 Qc6)<|qm rfl<|qe rfl (eC Dg rfl (Dd k0 (Qs 42#8) (Hv _) (Hu _) p0 _)) ?_
 rintro _ w2 ⟨rfl,G2⟩
 have z3:=G2.size
 have B4:=(a.gr G2)
 refine qe rfl (Xf Xk rfl rfl rfl B4 rfl rfl) ?_
 rintro _ w3 ⟨b,M3⟩
 have z5:=M3.size
 refine Qa<|Qq ?_
 have X6:=((((Gr.refl w).trans G1).trans G2).md M3)
 cases hm
 exact⟨_,_,rfl,Qz rfl (Zf Xk rfl b rfl),rfl,X6⟩
theorem Xed {p0 p1 p2 p3 p4 vp2 zp2 gp2 op2 r}(hm:Tb p0 p1 p2 p3 p4=some r){w:World}(da:Rd w zp2 gp2 op2 1 vp2 (p2.map ic)):
 Calls Tryz.prog 65 [kv p0,.agg (Qj.cs p1).toArray,vp2,kv p3,wv p4].toArray w fun e w'=>∃ v,e=.returned v∧(∃ ur0_0 zr0_0 gr0_0 ur0_2 zr0_2 gr0_2,v=.tuple [.agg (Qy.cs r.1 ur0_0 ur0_2).toArray,.int .i64 r.2].toArray∧Qg w' zr0_0 gr0_0 139 18 ur0_0 (r.1.Items.map Zr.cs)∧Xd (zr0_0=0∨w.heap.size≤gr0_0)∧Qg w' zr0_2 gr0_2 60 2 ur0_2 (r.1.Points.map Xq.cs)∧Xd (zr0_2=0∨w.heap.size≤gr0_2)∧Xd (zr0_2=0∨zr0_0=0∨gr0_2≠gr0_0)∧Gr w w'):=by
 have aU:=da.lth
 unfold Tb at hm
 refine Xi 123 Tryz.func65 rfl rfl rfl<|qs 5 rfl<|qe rfl (Xo (cs:=kb p0) rfl rfl) ?_
 rintro _ w1 ⟨b1,rfl,gB,cr,G1⟩
 have z2:=G1.size
 have hR:=cr.lt
 refine qe rfl (Xo (cs:=Qj.cs p1) rfl rfl) ?_
 rintro _ w2 ⟨b2,rfl,gC,db,G2⟩
 have z4:=G2.size
 have hT:=db.lt
 refine qe rfl (Xo (cs:=kb p3) rfl rfl) ?_
 rintro _ w3 ⟨b3,rfl,gD,ct,G3⟩
 have z6:=G3.size
 have hU:=ct.lt
 refine qe rfl (Xg (cs:=Qy.cs (Qy.mk [] 0#64 [] k0 k0) (.slice none 0 0) (.slice none 0 0)) Lf rfl) ?_
 rintro _ w4 ⟨b4,rfl,gE,aV,G4⟩
 have z8:=G4.size
 have hV:=aV.lt
 refine qm rfl<|Qa<|Qe<|qs 3 rfl ?_
 have Y1:=Gr.trans G3 G4
 have cu:=(db.gr Y1)
 refine qv rfl (Xa Zq rfl cu rfl) ?_
 obtain⟨x1,fa,hm⟩:=Qd hm
 refine qe rfl (eC Qjy rfl (Qm0 fa)) ?_
 rintro _ w5 ⟨rfl,G5⟩
 have hW:=G5.size
 refine qv rfl (Kd rfl)<|Qa<|Jo hm rfl (fun c1 hm=>?_) (fun c1 hm=>?_)
 · refine qs 3 rfl<|qv rfl (Zk (cs:=Qy.cs (Qy.mk [] 0#64 [] k0 k0) (.slice none 0 0) (.slice none 0 0)) Db rfl (by kernel_rfl)) ?_
   have fb:=(aV.gr G5)
   refine qe rfl (Xf Jr rfl rfl (Qy.cs_ones _ _ _ rfl rfl) fb rfl rfl) ?_
   rintro _ w6 ⟨fc,M6⟩
   have hX:=M6.size
   refine qm rfl<|qb ?_
   have Y2:=Gr.trans (Gr.trans (Gr.trans G1 G2) Y1) G5
   have fd:=(((Gr.refl w).trans Y2).md M6)
   cases hm
   exact⟨_,_,rfl,Za rfl (Zf Jr rfl fc rfl) (Qn rfl),(.slice none 0 0),0,0,(.slice none 0 0),0,0,rfl,(Zi _ 0 139 18),⟨.inl rfl⟩,(Zi _ 0 60 2),⟨.inl rfl⟩,⟨(.inl rfl)⟩,fd⟩
 refine qu<|Qe<|qs 3 rfl<|qm rfl ?_
 have Y3:=Gr.trans (Gr.trans (Gr.trans G1 G2) Y1) G5
 have cv:=(da.gr Y3)
 refine qv rfl (Kq (l:=p2) (c:=ic) Tryz.underlying30 rfl cv)<|qm rfl<|Qa<|Xn ?_
 have cw:=((Gr.refl w).trans Y3)
 refine Kf (α:=Nat × Int) ([11,12,13]++rg 29 29) (fun⟨n1,a3⟩=>[(11,.int .i64 0),(29,.int .i64 a3)]) (fun⟨n1,a3⟩ wr=>(Qv (Cf p0 p1 p2 p3 p4) n1 a3=some r)∧Kz [] w5 wr) (fun⟨n1,a3⟩=>n1) ⟨Xb,0⟩ ?_ ?_ ?_
 · exact Ql
 · exact⟨hm,Kz.refl _ _⟩
 clear hm;rintro⟨n1,a3⟩ w7 ⟨hm,K7⟩
 have hY:=K7.size
 have hb:=Kl hm;clear hm;obtain⟨n1,rfl,hm⟩:=hb
 generalize cx:Qv (Cf p0 p1 p2 p3 p4) n1=dc at hm
 unfold Cf at hm
 try dsimp only at hm
 refine qs 1 rfl<|qv rfl (Jv (a:=a3) (b:=(p2.length:Int)) rfl rfl)<|Qa<|Qe<|Zv hm rfl (fun c2 hm=>?_) (fun c2 hm=>?_)
 · refine qu<|Qe<|Xn<|qs 5 rfl<|qm rfl ?_
   obtain⟨y4,de,hm⟩:=Qd hm
   have bu:=(cv.kz K7)
   refine qv rfl (Yq (i:=a3) Tryz.underlying30 (Qm).siz rfl bu rfl de)<|qv rfl (Hl (q:=0) (u:=.int .i64 y4) Qm rfl bu de (by first|rfl|omega) rfl)<|qn 2 rfl<|Qa ?_
   have ff:=(cw.kz K7)
   refine qj (β:=Bool) (rg 34 22) (fun a5=>[(55,.bool a5)]) (fun a5 wr=>(Ev a3 dc a5=some r)∧Kz [] w7 wr) ?_ ?_
   · refine qg 22 rfl<|qm rfl<|qv rfl (Jv (a:=y4) (b:=0) rfl rfl)<|Ji hm rfl (Qt rfl) (fun c4 hm=>?_) (fun c4 hm=>?_)
     · refine qn 7 rfl ?_
       refine qn 7 rfl ?_
       refine qn 5 rfl<|Qk ?_
       exact⟨rfl,true,Ql,hm,Xe⟩
     refine qm rfl<|qv rfl (Qh Wo rfl) ?_
     have fg:=((cu.gr G5).kz K7)
     refine qv rfl (Qi (v:=.int .i64 p1.Depth) Qm rfl fg rfl) ?_
     obtain⟨nn6,hnn6,hm⟩:=Qd hm
     refine qv rfl (Tf (a:=1) (b:=p1.Depth) rfl rfl hnn6)<|qv rfl (Wk (a:=y4) (b:=Xw 1 nn6) rfl rfl)<|qm rfl<|Ji hm rfl (Qt rfl) (fun c5 hm=>?_) (fun c5 hm=>?_)
     · refine qn 7 rfl ?_
       refine qn 5 rfl<|Qk ?_
       exact⟨rfl,true,Ql,hm,Xe⟩
     refine qm rfl<|qv rfl (Wr (a:=a3) (b:=0) rfl rfl)<|Vc hm rfl (Qt rfl) (fun c6 hm=>?_) (fun c6 hm=>?_)
     · refine qn 7 rfl ?_
       refine qn 2 rfl<|Qk ?_
       exact⟨rfl,false,Ql,hm,Xe⟩
     refine qn 3 rfl<|qv rfl (Vx (k:=.i64) (a:=a3) (b:=1) rfl rfl) ?_
     obtain⟨y7,df,hm⟩:=Qd hm
     refine qv rfl (Yq (i:=Qc (a3-1)) Tryz.underlying30 (Qm).siz rfl bu rfl df)<|qv rfl (Hl (q:=0) (u:=.int .i64 y7) Qm rfl bu df (by first|rfl|omega) rfl)<|qv rfl (Tt (a:=y4) (b:=y7) rfl rfl)<|qn 2 rfl<|Qk ?_
     exact⟨rfl,(decide (y4≤y7)),Ql,hm,Xe⟩
   clear hm;rintro a5 w8 ⟨hm,K8⟩
   have hZ:=K8.size
   unfold Ev at hm
   refine Si hm rfl (fun c3 hm=>?_) (fun c3 hm=>?_)
   · refine Jn<|Xh<|Xl<|qg 2 rfl<|qv rfl (Zd (k:=.i64) (a:=a3) (b:=1) rfl rfl)<|qm rfl<|Qk ?_
     have K_24:Kz [] w5 w8:=(K7.kz K8)
     subst cx
     exact⟨rfl,⟨n1,Qc (a3+1)⟩,Ql,⟨hm,K_24⟩,Nat.lt_succ_self _⟩
   refine qs 3 rfl<|qv rfl (Zk (cs:=Qy.cs (Qy.mk [] 0#64 [] k0 k0) (.slice none 0 0) (.slice none 0 0)) Db rfl (by kernel_rfl)) ?_
   have fh:=(((aV.gr G5).kz K7).kz K8)
   refine qe rfl (Xf Jr rfl rfl (Qy.cs_ones _ _ _ rfl rfl) fh rfl rfl) ?_
   rintro _ w9 ⟨fj,M9⟩
   have h0:=M9.size
   refine qm rfl<|Qa<|Qq<|Jf<|Xz<|Xz<|Jf ?_
   refine Xz ?_
   have fk:=((ff.kz K8).md M9)
   cases hm
   exact⟨_,_,rfl,Za rfl (Zf Jr rfl fj rfl) (Qn rfl),(.slice none 0 0),0,0,(.slice none 0 0),0,0,rfl,(Zi _ 0 139 18),⟨.inl rfl⟩,(Zi _ 0 60 2),⟨.inl rfl⟩,⟨(.inl rfl)⟩,fk⟩
 refine Jl<|Xu<|Xu<|Jk<|Xl<|Qe<|Qe ?_
 refine qg 5 rfl<|qm rfl ?_
 have dg:=(cv.kz K7)
 refine qv rfl (Kq (l:=p2) (c:=ic) Tryz.underlying30 rfl dg)<|qv rfl (Qh Bo rfl) ?_
 have cy:=((cu.gr G5).kz K7)
 refine qv rfl (Qi (v:=.int .i64 p1.Degree) Qm rfl cy rfl)<|qv rfl (Wr (a:=(p2.length:Int)) (b:=p1.Degree) rfl rfl)<|Qa<|Zv hm rfl (fun c7 hm=>?_) (fun c7 hm=>?_)
 · refine qs 3 rfl<|qv rfl (Zk (cs:=Qy.cs (Qy.mk [] 0#64 [] k0 k0) (.slice none 0 0) (.slice none 0 0)) Db rfl (by kernel_rfl)) ?_
   have fl:=((aV.gr G5).kz K7)
   refine qe rfl (Xf Jr rfl rfl (Qy.cs_ones _ _ _ rfl rfl) fl rfl rfl) ?_
   rintro _ h1 ⟨di,dj⟩
   have h2:=dj.size
   refine qm rfl<|qb ?_
   have fm:=((cw.kz K7).md dj)
   cases hm
   exact⟨_,_,rfl,Za rfl (Zf Jr rfl di rfl) (Qn rfl),(.slice none 0 0),0,0,(.slice none 0 0),0,0,rfl,(Zi _ 0 139 18),⟨.inl rfl⟩,(Zi _ 0 60 2),⟨.inl rfl⟩,⟨(.inl rfl)⟩,fm⟩
 refine qu ?_
 have fn:=(cw.kz K7)
 refine qj (β:=List (BitVec 64) × Nat × Value × Nat × Nat × Nat) ([14,15]++rg 64 6) (fun⟨a9,bq8,vy10,zy10,gy10,bq11⟩=>[(14,.pointer (some ⟨bq8,0,none⟩)),(15,.pointer (some ⟨bq11,0,none⟩))]) (fun⟨a9,bq8,vy10,zy10,gy10,bq11⟩ wr=>(Qb3 p0 p1 p2 p3 p4 a9=some r)∧Qg wr zy10 gy10 22 1 vy10 (a9.map Dn)∧Xd (zy10=0∨w7.heap.size≤gy10)∧Bx wr bq8 185 ([vy10])∧w7.heap.size≤bq8∧Bx wr bq11 188 ([wv p1.Group.Q])∧w7.heap.size≤bq11∧Xd (zy10=0∨gy10≠bq8)∧bq11≠bq8∧Xd (zy10=0∨gy10≠bq11)∧Kz [] w7 wr) ?_ ?_
 · refine dw [([])] [] (.fork [(0,10),(1,10),(3,10),(4,10),(5,10)] (.fork [(2,0)] (.leaf [(6,0),(7,0),(8,0),(9,0)]) (.leaf [(7,0),(6,0),(8,0),(9,0)])) (.fork [] (.fork [(6,0)] (.leaf [(2,0),(7,0),(8,0),(9,0)]) (.leaf [(7,0),(2,0),(8,0),(9,0)])) (.fork [(7,0)] (.leaf [(2,0),(6,0),(8,0),(9,0)]) (.leaf [(6,0),(2,0),(8,0),(9,0)])))) ?_
   intro h3 am gF
   refine Lx ?_
   have Y4:=Gr.trans (Gr.trans G2 Y1) G5
   have dk:=(((cr.gr Y4).kz K7).gr am)
   refine dh 0 rfl rfl (fun w hS=>Xa Xk rfl (Bx.kp dk hS) rfl) ?_
   have bQ:=(cy.gr am)
   refine dh 0 rfl rfl (fun w hS=>Xa Zq rfl (Bx.kp bQ hS) rfl)<|dh 0 rfl rfl (fun w hS=>Qh Fa rfl)<|dh 0 rfl rfl (fun w hS=>Qh Bn rfl)<|dh 0 rfl rfl (fun w hS=>Qi (v:=wv p1.Group.Q) Zw rfl (Bx.kp bQ hS) rfl)<|Lw ?_ (Lx (Lw ?_ ?_))
   · refine Lx ?_
     obtain⟨dl,dp,hm⟩:=Qd hm
     refine qz [] rfl (eC Qa3 rfl (Qb8 dp)) ⟨fun _=>Qf,trivial⟩ ?_
     rintro B h4 ⟨_,Y,Z,rfl,H,aa,bw⟩
     have gG:=bw.size
     have s:=H.lth
     refine kG bw<|Lw ?_ ?_
     · refine Zz<|qz [] rfl (Xg (cs:=[(.slice none 0 0)]) Qe9 rfl) ⟨fun _=>Qf,trivial⟩ ?_
       rintro _ h5 ⟨cz,rfl,fo,bR,bx⟩
       have gH:=bx.size
       have fp:=bR.lt
       refine kG bx<|qz [] rfl (Xg (cs:=[wv 0#64]) Qea rfl) ⟨fun _=>Qf,trivial⟩ ?_
       rintro _ h6 ⟨cA,rfl,fq,bS,aW⟩
       have gI:=aW.size
       have fr:=bS.lt
       refine kG aW ?_
       have dq:=(bR.gr aW)
       have bT:=((H.gr bx).gr aW)
       refine qz [(1,cz)] rfl (Zp (cs':=[B]) (Fu).siz rfl rfl (Qg.oneB bT) dq rfl rfl) ⟨fun _=>Qf,trivial⟩ ?_
       rintro _ h7 ⟨dr,aX⟩
       have gJ:=aX.size
       refine kM aX ?_
       have ds:=(bS.md aX)
       refine qz [(1,cA)] rfl (Zp (cs':=[wv p1.Group.Q]) (Fv).siz rfl rfl rfl ds rfl rfl) ⟨fun _=>Qf,trivial⟩ ?_
       rintro _ fs ⟨dt,aY⟩
       have gK:=aY.size
       refine kM aY<|Qk ?_
       have K_169:Kz [] w7 fs:=((((((Kz.gr (Kz.refl _ _) am).gr bw).gr bx).gr aW).md aX).md aY)
       have du:=((bT.md aX (Qw s)).md aY (Qw s))
       have dv:=(dr.md aY)
       exact⟨rfl,⟨dl,cz,B,Y,Z,cA⟩,Ql,hm,du,⟨(Xm (A:=(fun x=>w7.heap.size≤x)) aa)⟩,dv,(by omega),dt,(by omega),⟨(Ad (A:=(fun x=>x≠cz)) s)⟩,(by omega),⟨(Ad (A:=(fun x=>x≠cA)) s)⟩,K_169⟩
     refine Zz<|qz [] rfl (Xg (cs:=[wv 0#64]) Qea rfl) ⟨fun _=>Qf,trivial⟩ ?_
     rintro _ h8 ⟨cB,rfl,ft,bU,bz⟩
     have gL:=bz.size
     have fu:=bU.lt
     refine kG bz<|qz [] rfl (Xg (cs:=[(.slice none 0 0)]) Qe9 rfl) ⟨fun _=>Qf,trivial⟩ ?_
     rintro _ h9 ⟨cC,rfl,fv,bV,aZ⟩
     have gM:=aZ.size
     have fw:=bV.lt
     refine kG aZ ?_
     have bW:=((H.gr bz).gr aZ)
     refine qz [(1,cC)] rfl (Zp (cs':=[B]) (Fu).siz rfl rfl (Qg.oneB bW) bV rfl rfl) ⟨fun _=>Qf,trivial⟩ ?_
     rintro _ ia ⟨dy,a0⟩
     have gN:=a0.size
     refine kM a0 ?_
     have dz:=((bU.gr aZ).md a0)
     refine qz [(1,cB)] rfl (Zp (cs':=[wv p1.Group.Q]) (Fv).siz rfl rfl rfl dz rfl rfl) ⟨fun _=>Qf,trivial⟩ ?_
     rintro _ fx ⟨dA,a1⟩
     have gO:=a1.size
     refine kM a1<|Qk ?_
     have K_180:Kz [] w7 fx:=((((((Kz.gr (Kz.refl _ _) am).gr bw).gr bz).gr aZ).md a0).md a1)
     have dB:=((bW.md a0 (Qw s)).md a1 (Qw s))
     have dC:=(dy.md a1)
     exact⟨rfl,⟨dl,cC,B,Y,Z,cB⟩,Ql,hm,dB,⟨(Xm (A:=(fun x=>w7.heap.size≤x)) aa)⟩,dC,(by omega),dA,(by omega),⟨(Ad (A:=(fun x=>x≠cC)) s)⟩,(by omega),⟨(Ad (A:=(fun x=>x≠cB)) s)⟩,K_180⟩
   · refine Lx<|qz [] rfl (Xg (cs:=[(.slice none 0 0)]) Qe9 rfl) ⟨fun _=>Qf,trivial⟩ ?_
     rintro _ ib ⟨aB,rfl,fy,a2,bA⟩
     have gP:=bA.size
     have fz:=a2.lt
     refine kG bA<|Lw ?_ ?_
     · refine Zz ?_
       obtain⟨fA,dD,hm⟩:=Qd hm
       refine qz [] rfl (eC Qa3 rfl (Qb8 dD)) ⟨fun _=>Qf,trivial⟩ ?_
       rintro ab ie ⟨_,aC,aD,rfl,ac,I,bB⟩
       have gQ:=bB.size
       have a4:=ac.lth
       refine kG bB<|qz [] rfl (Xg (cs:=[wv 0#64]) Qea rfl) ⟨fun _=>Qf,trivial⟩ ?_
       rintro _ ig ⟨cD,rfl,fB,bX,a6⟩
       have gR:=a6.size
       have fC:=bX.lt
       refine kG a6 ?_
       have dE:=((a2.gr bB).gr a6)
       have bY:=(ac.gr a6)
       refine qz [(1,aB)] rfl (Zp (cs':=[ab]) (Fu).siz rfl rfl (Qg.oneB bY) dE rfl rfl) ⟨fun _=>Qf,trivial⟩ ?_
       rintro _ ih ⟨dF,a7⟩
       have gS:=a7.size
       refine kM a7 ?_
       have dG:=(bX.md a7)
       refine qz [(1,cD)] rfl (Zp (cs':=[wv p1.Group.Q]) (Fv).siz rfl rfl rfl dG rfl rfl) ⟨fun _=>Qf,trivial⟩ ?_
       rintro _ fD ⟨dH,a8⟩
       have gT:=a8.size
       refine kM a8<|Qk ?_
       have K_194:Kz [] w7 fD:=((((((Kz.gr (Kz.refl _ _) am).gr bA).gr bB).gr a6).md a7).md a8)
       have dI:=((bY.md a7 (Qr I)).md a8 (Qw a4))
       have dJ:=(dF.md a8)
       exact⟨rfl,⟨fA,aB,ab,aC,aD,cD⟩,Ql,hm,dI,⟨(Xm (A:=(fun x=>w7.heap.size≤x)) I)⟩,dJ,(by omega),dH,(by omega),⟨(Xm (A:=(fun x=>x≠aB)) I)⟩,(by omega),⟨(Ad (A:=(fun x=>x≠cD)) a4)⟩,K_194⟩
     refine Zz<|qz [] rfl (Xg (cs:=[wv 0#64]) Qea rfl) ⟨fun _=>Qf,trivial⟩ ?_
     rintro _ ii ⟨cE,rfl,fE,bZ,bC⟩
     have gU:=bC.size
     have fF:=bZ.lt
     refine kG bC ?_
     obtain⟨fG,dK,hm⟩:=Qd hm
     refine qz [] rfl (eC Qa3 rfl (Qb8 dK)) ⟨fun _=>Qf,trivial⟩ ?_
     rintro ad ij ⟨_,aE,aF,rfl,J,j,ba⟩
     have gV:=ba.size
     have fH:=J.lth
     refine kG ba ?_
     have dL:=((a2.gr bC).gr ba)
     refine qz [(1,aB)] rfl (Zp (cs':=[ad]) (Fu).siz rfl rfl (Qg.oneB J) dL rfl rfl) ⟨fun _=>Qf,trivial⟩ ?_
     rintro _ ik ⟨dM,bb⟩
     have gW:=bb.size
     refine kM bb ?_
     have dN:=((bZ.gr ba).md bb)
     refine qz [(1,cE)] rfl (Zp (cs':=[wv p1.Group.Q]) (Fv).siz rfl rfl rfl dN rfl rfl) ⟨fun _=>Qf,trivial⟩ ?_
     rintro _ fI ⟨dO,bc⟩
     have gX:=bc.size
     refine kM bc<|Qk ?_
     have K_205:Kz [] w7 fI:=((((((Kz.gr (Kz.refl _ _) am).gr bA).gr bC).gr ba).md bb).md bc)
     have dP:=((J.md bb (Qr j)).md bc (Qr j))
     have dQ:=(dM.md bc)
     exact⟨rfl,⟨fG,aB,ad,aE,aF,cE⟩,Ql,hm,dP,⟨(Xm (A:=(fun x=>w7.heap.size≤x)) j)⟩,dQ,(by omega),dO,(by omega),⟨(Xm (A:=(fun x=>x≠aB)) j)⟩,(by omega),⟨(Xm (A:=(fun x=>x≠cE)) j)⟩,K_205⟩
   refine Lx<|qz [] rfl (Xg (cs:=[wv 0#64]) Qea rfl) ⟨fun _=>Qf,trivial⟩ ?_
   rintro _ il ⟨aG,rfl,fJ,bd,bD⟩
   have gY:=bD.size
   have fK:=bd.lt
   refine kG bD<|Lw ?_ ?_
   · refine Zz ?_
     obtain⟨fL,dR,hm⟩:=Qd hm
     refine qz [] rfl (eC Qa3 rfl (Qb8 dR)) ⟨fun _=>Qf,trivial⟩ ?_
     rintro ae im ⟨_,aH,aI,rfl,af,K,bE⟩
     have gZ:=bE.size
     have bf:=af.lth
     refine kG bE<|qz [] rfl (Xg (cs:=[(.slice none 0 0)]) Qe9 rfl) ⟨fun _=>Qf,trivial⟩ ?_
     rintro _ io ⟨cF,rfl,fM,b0,bg⟩
     have g0:=bg.size
     have fO:=b0.lt
     refine kG bg ?_
     have b5:=(af.gr bg)
     refine qz [(1,cF)] rfl (Zp (cs':=[ae]) (Fu).siz rfl rfl (Qg.oneB b5) b0 rfl rfl) ⟨fun _=>Qf,trivial⟩ ?_
     rintro _ ip ⟨dS,bh⟩
     have g1:=bh.size
     refine kM bh ?_
     have dT:=(((bd.gr bE).gr bg).md bh)
     refine qz [(1,aG)] rfl (Zp (cs':=[wv p1.Group.Q]) (Fv).siz rfl rfl rfl dT rfl rfl) ⟨fun _=>Qf,trivial⟩ ?_
     rintro _ fP ⟨dU,bi⟩
     have g2:=bi.size
     refine kM bi<|Qk ?_
     have K_218:Kz [] w7 fP:=((((((Kz.gr (Kz.refl _ _) am).gr bD).gr bE).gr bg).md bh).md bi)
     have dV:=((b5.md bh (Qw bf)).md bi (Qr K))
     have dW:=(dS.md bi)
     exact⟨rfl,⟨fL,cF,ae,aH,aI,aG⟩,Ql,hm,dV,⟨(Xm (A:=(fun x=>w7.heap.size≤x)) K)⟩,dW,(by omega),dU,(by omega),⟨(Ad (A:=(fun x=>x≠cF)) bf)⟩,(by omega),⟨(Xm (A:=(fun x=>x≠aG)) K)⟩,K_218⟩
   refine Zz<|qz [] rfl (Xg (cs:=[(.slice none 0 0)]) Qe9 rfl) ⟨fun _=>Qf,trivial⟩ ?_
   rintro _ iq ⟨cG,rfl,fQ,b6,bF⟩
   have g3:=bF.size
   have fR:=b6.lt
   refine kG bF ?_
   obtain⟨fS,dX,hm⟩:=Qd hm
   refine qz [] rfl (eC Qa3 rfl (Qb8 dX)) ⟨fun _=>Qf,trivial⟩ ?_
   rintro ag ir ⟨_,aJ,aK,rfl,L,n,bj⟩
   have g4:=bj.size
   have fT:=L.lth
   refine kG bj ?_
   have dY:=(b6.gr bj)
   refine qz [(1,cG)] rfl (Zp (cs':=[ag]) (Fu).siz rfl rfl (Qg.oneB L) dY rfl rfl) ⟨fun _=>Qf,trivial⟩ ?_
   rintro _ it ⟨dZ,bk⟩
   have g5:=bk.size
   refine kM bk ?_
   have d0:=(((bd.gr bF).gr bj).md bk)
   refine qz [(1,aG)] rfl (Zp (cs':=[wv p1.Group.Q]) (Fv).siz rfl rfl rfl d0 rfl rfl) ⟨fun _=>Qf,trivial⟩ ?_
   rintro _ fU ⟨d1,bl⟩
   have g6:=bl.size
   refine kM bl<|Qk ?_
   have K_229:Kz [] w7 fU:=((((((Kz.gr (Kz.refl _ _) am).gr bD).gr bF).gr bj).md bk).md bl)
   have d2:=((L.md bk (Qr n)).md bl (Qr n))
   have d3:=(dZ.md bl)
   exact⟨rfl,⟨fS,cG,ag,aJ,aK,aG⟩,Ql,hm,d2,⟨(Xm (A:=(fun x=>w7.heap.size≤x)) n)⟩,d3,(by omega),d1,(by omega),⟨(Xm (A:=(fun x=>x≠cG)) n)⟩,(by omega),⟨(Xm (A:=(fun x=>x≠aG)) n)⟩,K_229⟩
 clear hm;rintro⟨a9,bq8,vy10,zy10,gy10,bq11⟩ iu ⟨hm,aw,e3,O,e4,P,e5,e6,e7,e8,an⟩
 have iw:=an.size
 have t:=aw.lth
 have g7:=O.lt
 have g8:=P.lt
 unfold Qb3 at hm
 refine Qe<|dw [([])] [] (.leaf [(0,10),(1,10),(3,10),(4,10),(5,10),(6,10),(2,0),(7,0),(8,10),(9,10)]) ?_
 intro fV cH g9
 refine Zz ?_
 have Y5:=Gr.trans (Gr.trans G2 Y1) G5
 have fW:=((((cr.gr Y5).kz K7).kz an).gr cH)
 refine dh 0 rfl rfl (fun w hS=>Xa Xk rfl (Bx.kp fW hS) rfl)<|dm 0 rfl rfl<|dh 0 rfl rfl (fun w hS=>Qh Fa rfl)<|dh 0 rfl rfl (fun w hS=>Qh Bn rfl) ?_
 have bG:=((cy.kz an).gr cH)
 refine dh 0 rfl rfl (fun w hS=>Qi (v:=wv p1.Group.Q) Zw rfl (Bx.kp bG hS) rfl)<|dh 0 rfl rfl (fun w hS=>Qvj (a:=p1.Group.Q) (b:=1#64) rfl rfl)<|qz [] rfl (eC Dg rfl (Dd p0 (Qs 41#8) (Hv _) (Hu _) p4 _)) ⟨fun _=>Qf,trivial⟩ ?_
 rintro _ ix ⟨rfl,cI⟩
 have iy:=cI.size
 refine kG cI ?_
 obtain⟨fX,d4,hm⟩:=Qd hm
 refine qz [] rfl (eC Qpn rfl (Qot d4)) ⟨fun _=>Qf,trivial⟩ ?_
 rintro _ bH ⟨rfl,cJ⟩
 have iz:=cJ.size
 refine kG cJ ?_
 have Y6:=Gr.trans cI cJ
 have d5:=((Kp.refl ([]) fV).gr Y6)
 refine qh 0 rfl rfl d5 (fun w hS=>Qe6 (a:=1#64) (b:=fX) rfl rfl)<|dn 0 rfl rfl d5<|Qa ?_
 have Y7:=Gr.trans cH Y6
 have fY:=((fn.kz an).trans Y7)
 refine qj (β:=BitVec 64 × Nat × Value × Nat × Nat × Value × Nat × Nat) ([17]++rg 79 9) (fun⟨M,bq13,vy15,zy15,gy15,vy16,zy16,gy16⟩=>[(17,.pointer (some ⟨bq13,0,none⟩))]) (fun⟨M,bq13,vy15,zy15,gy15,vy16,zy16,gy16⟩ wr=>(Qhl p1 p2 p3 a9 M=some r)∧Qg wr zy15 gy15 139 18 vy15 ([].map Zr.cs)∧Xd (zy15=0∨bH.heap.size≤gy15)∧Qg wr zy16 gy16 60 2 vy16 ([].map Xq.cs)∧Xd (zy16=0∨bH.heap.size≤gy16)∧Bx wr bq13 50 (Qy.cs (Qy.mk [] M [] k0 (Xy p3 (Qs 53#8) 0#64)) vy15 vy16)∧bH.heap.size≤bq13∧Xd (zy16=0∨zy15=0∨gy16≠gy15)∧Xd (zy15=0∨gy15≠bq13)∧Xd (zy16=0∨gy16≠bq13)∧Kz [] bH wr) ?_ ?_
 · refine dw [([])] [] (.fork [(0,10),(1,10),(2,10),(3,10),(4,10),(6,10)] (.fork [(5,0)] (.leaf [(7,0),(8,10),(9,0),(10,0)]) (.leaf [(9,0),(7,0),(8,10),(10,0)])) (.leaf [(9,0),(5,0),(7,0),(8,10),(10,0)])) ?_
   intro cK bm ha
   refine Lx ?_
   have b7:=((bG.gr Y6).gr bm)
   refine dh 0 rfl rfl (fun w hS=>Xa Zq rfl (Bx.kp b7 hS) rfl)<|dh 0 rfl rfl (fun w hS=>Qh Fa rfl)<|dh 0 rfl rfl (fun w hS=>Qh Qfh rfl)<|dh 0 rfl rfl (fun w hS=>Qi (v:=wv p1.Group.G) Zw rfl (Bx.kp b7 hS) rfl)<|dm 0 rfl rfl ?_
   have Y8:=Gr.trans G4 G5
   have d6:=(((((ct.gr Y8).kz K7).kz an).gr Y7).gr bm)
   refine dh 0 rfl rfl (fun w hS=>Xa Xk rfl (Bx.kp d6 hS) rfl)<|Lw ?_ ?_
   · refine Lx ?_
     obtain⟨bI,d7,hm⟩:=Qd hm
     refine qz [] rfl (eC Qjp rfl (Qlz d7)) ⟨fun _=>Qf,trivial⟩ ?_
     rintro _ iA ⟨rfl,aL⟩
     have hc:=aL.size
     refine kG aL<|Lw ?_ ?_
     · refine Zz<|qz [] rfl (eC Dg rfl (Dd p3 (Qs 53#8) (Hv _) (Hu _) 0#64 _)) ⟨fun _=>Qf,trivial⟩ ?_
       rintro _ iB ⟨rfl,bJ⟩
       have hd:=bJ.size
       refine kG bJ ?_
       have d8:=(((Kp.refl ([]) cK).gr aL).gr bJ)
       refine qh 0 rfl rfl d8 (fun w hS=>Zk (cs:=Qy.cs (Qy.mk [] bI [] k0 (Xy p3 (Qs 53#8) 0#64)) (.slice none 0 0) (.slice none 0 0)) Db rfl (by obtain⟨cL,au⟩:=Ur (Xy p3 (Qs 53#8) 0#64);rw[←au];exact(Vz rfl rfl rfl (Vz rfl rfl rfl (by kernel_rfl)))))<|qz [] rfl (Xg (cs:=Qy.cs (Qy.mk [] 0#64 [] k0 k0) (.slice none 0 0) (.slice none 0 0)) Lf rfl) ⟨fun _=>Qf,trivial⟩ ?_
       rintro _ iC ⟨d9,rfl,fZ,b8,cM⟩
       have he:=cM.size
       have f0:=b8.lt
       refine kG cM<|qz [(1,d9)] rfl (Xf Jr rfl rfl (Qy.cs_ones _ _ _ rfl rfl) b8 rfl rfl) ⟨fun _=>Qf,trivial⟩ ?_
       rintro _ iD ⟨ea,cN⟩
       have hf:=cN.size
       refine kM cN<|Qk ?_
       exact⟨rfl,⟨bI,d9,(.slice none 0 0),0,0,(.slice none 0 0),0,0⟩,Ql,hm,(Zi _ 0 139 18),⟨(.inl rfl)⟩,(Zi _ 0 60 2),⟨(.inl rfl)⟩,ea,(by omega),⟨(.inl rfl)⟩,⟨.inl rfl⟩,⟨.inl rfl⟩,(((((Xe.gr bm).gr aL).gr bJ).gr cM).md cN)⟩
     refine Zz<|qz [] rfl (Xg (cs:=Qy.cs (Qy.mk [] 0#64 [] k0 k0) (.slice none 0 0) (.slice none 0 0)) Lf rfl) ⟨fun _=>Qf,trivial⟩ ?_
     rintro _ iE ⟨eb,rfl,f1,b9,bK⟩
     have hg:=bK.size
     have f2:=b9.lt
     refine kG bK<|qz [] rfl (eC Dg rfl (Dd p3 (Qs 53#8) (Hv _) (Hu _) 0#64 _)) ⟨fun _=>Qf,trivial⟩ ?_
     rintro _ iG ⟨rfl,bo⟩
     have hh:=bo.size
     refine kG bo ?_
     have ec:=((((Kp.refl ([]) cK).gr aL).gr bK).gr bo)
     refine qh 0 rfl rfl ec (fun w hS=>Zk (cs:=Qy.cs (Qy.mk [] bI [] k0 (Xy p3 (Qs 53#8) 0#64)) (.slice none 0 0) (.slice none 0 0)) Db rfl (by obtain⟨cL,au⟩:=Ur (Xy p3 (Qs 53#8) 0#64);rw[←au];exact(Vz rfl rfl rfl (Vz rfl rfl rfl (by kernel_rfl))))) ?_
     have ed:=(b9.gr bo)
     refine qz [(1,eb)] rfl (Xf Jr rfl rfl (Qy.cs_ones _ _ _ rfl rfl) ed rfl rfl) ⟨fun _=>Qf,trivial⟩ ?_
     rintro _ iH ⟨ee,cO⟩
     have hi:=cO.size
     refine kM cO<|Qk ?_
     exact⟨rfl,⟨bI,eb,(.slice none 0 0),0,0,(.slice none 0 0),0,0⟩,Ql,hm,(Zi _ 0 139 18),⟨(.inl rfl)⟩,(Zi _ 0 60 2),⟨(.inl rfl)⟩,ee,(by omega),⟨(.inl rfl)⟩,⟨.inl rfl⟩,⟨.inl rfl⟩,(((((Xe.gr bm).gr aL).gr bK).gr bo).md cO)⟩
   refine Zz<|qz [] rfl (Xg (cs:=Qy.cs (Qy.mk [] 0#64 [] k0 k0) (.slice none 0 0) (.slice none 0 0)) Lf rfl) ⟨fun _=>Qf,trivial⟩ ?_
   rintro _ iI ⟨ef,rfl,f3,ca,bL⟩
   have hj:=bL.size
   have f4:=ca.lt
   refine kG bL ?_
   obtain⟨eg,eh,hm⟩:=Qd hm
   refine qz [] rfl (eC Qjp rfl (Qlz eh)) ⟨fun _=>Qf,trivial⟩ ?_
   rintro _ iJ ⟨rfl,bp⟩
   have hk:=bp.size
   refine kG bp<|qz [] rfl (eC Dg rfl (Dd p3 (Qs 53#8) (Hv _) (Hu _) 0#64 _)) ⟨fun _=>Qf,trivial⟩ ?_
   rintro _ iK ⟨rfl,bq⟩
   have hl:=bq.size
   refine kG bq ?_
   have ei:=((((Kp.refl ([]) cK).gr bL).gr bp).gr bq)
   refine qh 0 rfl rfl ei (fun w hS=>Zk (cs:=Qy.cs (Qy.mk [] eg [] k0 (Xy p3 (Qs 53#8) 0#64)) (.slice none 0 0) (.slice none 0 0)) Db rfl (by obtain⟨cL,au⟩:=Ur (Xy p3 (Qs 53#8) 0#64);rw[←au];exact(Vz rfl rfl rfl (Vz rfl rfl rfl (by kernel_rfl))))) ?_
   have ej:=((ca.gr bp).gr bq)
   refine qz [(1,ef)] rfl (Xf Jr rfl rfl (Qy.cs_ones _ _ _ rfl rfl) ej rfl rfl) ⟨fun _=>Qf,trivial⟩ ?_
   rintro _ iL ⟨ek,cP⟩
   have hn:=cP.size
   refine kM cP<|Qk ?_
   exact⟨rfl,⟨eg,ef,(.slice none 0 0),0,0,(.slice none 0 0),0,0⟩,Ql,hm,(Zi _ 0 139 18),⟨(.inl rfl)⟩,(Zi _ 0 60 2),⟨(.inl rfl)⟩,ek,(by omega),⟨(.inl rfl)⟩,⟨.inl rfl⟩,⟨.inl rfl⟩,(((((Xe.gr bm).gr bL).gr bp).gr bq).md cP)⟩
 clear hm;rintro⟨M,bq13,vy15,zy15,gy15,vy16,zy16,gy16⟩ iM ⟨hm,ax,ay,az,f,aA,e9,D,E,p,F⟩
 have iN:=F.size
 have ao:=ax.lth
 have N:=az.lth
 have ho:=aA.lt
 unfold Qhl at hm
 refine qs 3 rfl<|qv rfl (Tu rfl rfl)<|qe rfl (Xg Xie rfl) ?_
 rintro _ iO ⟨av,rfl,f5,cb,y⟩
 have iP:=y.size
 have hp:=cb.lt
 refine qe rfl (Zp (Qgj).siz rfl rfl rfl cb rfl rfl) ?_
 rintro _ aM ⟨br,z⟩
 have iQ:=z.size
 refine qd 2 rfl<|qv rfl (Tu rfl rfl)<|qm rfl<|Qa<|Qe ?_
 refine qs 3 rfl<|qm rfl ?_
 have cQ:=(((((dg.kz an).gr Y7).kz F).gr y).md z (Qw aU))
 refine qv rfl (Kq (l:=p2) (c:=ic) Tryz.underlying30 rfl cQ)<|qm rfl<|Qa<|Xn ?_
 have f6:=(((fY.kz F).trans y).md z)
 have el:=((((aw.gr Y7).kz F).gr y).md z (Qw t))
 have em:=((ax.gr y).md z (Qw ao))
 have f7:=((az.gr y).md z (Qw N))
 have f8:=((aA.gr y).md z)
 refine Kf (α:=Nat × Int × List Xq × Value × Nat × Nat) ([21]++rg 92 9) (fun⟨n5,ah,ap,vy22,zy22,gy22⟩=>[(92,.int .i64 ah)]) (fun⟨n5,ah,ap,vy22,zy22,gy22⟩ wr=>(Qv (Ew p1 p2 p3 a9 M) n5 (ah,ap)=some r)∧Qg wr zy22 gy22 60 2 vy22 (ap.map Xq.cs)∧Xd (zy22=0∨(gy22=gy16∧zy16≠0)∨aM.heap.size≤gy22)∧Bx wr bq13 50 (Qy.cs (Qy.mk [] M ap k0 (Xy p3 (Qs 53#8) 0#64)) vy15 vy22)∧Kz [(1,bq13),(zy16,gy16)] aM wr) (fun⟨n5,ah,ap,vy22,zy22,gy22⟩=>n5) ⟨Xb,0,[],vy16,zy16,gy16⟩ ?_ ?_ ?_
 · exact Ql
 · exact⟨hm,f7,⟨Qf⟩,f8,Kz.refl _ _⟩
 clear hm;rintro⟨n5,ah,ap,vy22,zy22,gy22⟩ aN ⟨hm,ai,d,aj,h⟩
 have iR:=h.size
 have hq:=ai.lth
 have hr:=aj.lt
 have hb:=Kl hm;clear hm;obtain⟨n5,rfl,hm⟩:=hb
 generalize cR:Qv (Ew p1 p2 p3 a9 M) n5=ht at hm
 unfold Ew at hm
 try dsimp only at hm
 refine qs 1 rfl<|qv rfl (Jv (a:=ah) (b:=(p2.length:Int)) rfl rfl)<|Qa<|Qe<|Zv hm rfl (fun c8 hm=>?_) (fun c8 hm=>?_)
 · refine qu<|Qe<|Xn<|qs 3 rfl ?_
   obtain⟨bs,cc,hm⟩:=Qd hm
   have en:=(cQ.kz h (Zc ((Jh (Xm (A:=(fun x=>zp2=0∨x≠gp2)) f (fun x hx=>(Qb aU.o)))):zp2=0∨zy16=0∨gp2≠gy16) (Qw (b:=bq13) aU)))
   refine qv rfl (Yq (i:=ah) Tryz.underlying30 (Qm).siz rfl en rfl cc)<|qv rfl (Hl (q:=0) (u:=.int .i64 bs) Qm rfl en cc (by first|rfl|omega) rfl)<|qm rfl<|Qa<|qg 4 rfl<|qn 2 rfl ?_
   refine qv rfl (Zd (k:=.i64) (a:=bs) (b:=1) rfl rfl)<|Cj 16 Tryz.func120 rfl rfl rfl Qpp rfl rfl rfl rfl rfl<|dw [([bq13]++zf zy22 gy22),([]++zf zy22 gy22)] [(12,[1])] (.leaf [(0,10),(1,11),(2,10),(3,10),(4,10),(5,10),(6,10),(7,0),(8,10),(9,0),(10,0),(11,10),(12,0)]) ?_
   intro T ak hu
   refine Zz<|qh 0 rfl rfl (Kp.refl ([bq13]++zf zy22 gy22) T) (fun w hS=>Qh Fb rfl) ?_
   have cS:=(aj.gr ak)
   refine qh 1 rfl rfl (Kp.refl ([]++zf zy22 gy22) T) (fun w hS=>Qi (v:=vy22) Lu rfl (Bx.kp cS hS (Qb (Qo (b:=bq13) d (Qb p.o)))) rfl)<|dn 0 rfl rfl (Kp.refl ([bq13]++zf zy22 gy22) T)<|qh 0 rfl rfl (Kp.refl ([bq13]++zf zy22 gy22) T) (fun w hS=>Ww Wu rfl) ?_
   have f9:=((br.kz h (Qb (Qw (b:=av) N))).gr ak)
   refine qh 0 rfl rfl (Kp.refl ([bq13]++zf zy22 gy22) T) (fun w hS=>Qi Qgj rfl (Bx.kp f9 hS (Qb (Qo (b:=av) d (Qw N)))) rfl)<|dn 0 rfl rfl (Kp.refl ([bq13]++zf zy22 gy22) T)<|qh 0 rfl rfl (Kp.refl ([bq13]++zf zy22 gy22) T) (fun w hS=>Ww Wu rfl) ?_
   have ga:=((((((bG.gr Y6).kz F).gr y).md z).kz h (Qb (Qr (b:=b2) f))).gr ak)
   have gb:=((em.kz h (Zc ((Qb D.o):zy15=0∨zy16=0∨gy15≠gy16) ((Qb E.o):zy15=0∨gy15≠bq13))).gr ak)
   have eo:=(ai.gr ak)
   have gc:=((((((O.gr Y7).kz F).gr y).md z).kz h (Qb (Qr (b:=bq8) f))).gr ak)
   have gf:=((el.kz h (Zc ((Jh (Xm (A:=(fun x=>zy10=0∨x≠gy10)) f (fun x hx=>(Qb t.o)))):zy10=0∨zy16=0∨gy10≠gy16) (Qw (b:=bq13) t))).gr ak)
   have gg:=((((((P.gr Y7).kz F).gr y).md z).kz h (Qb (Qr (b:=bq11) f))).gr ak)
   obtain⟨cT,ep,hm⟩:=Qd hm
   refine qz [] rfl (Yu Qjq rfl rfl (Qlx ep ga cS (Qg.rd gb) (Qg.rd eo) gc (Qg.rd gf) gg)) ⟨fun _=>Qf,fun _=>Qf,trivial⟩ ?_
   rintro _ iS ⟨rfl,aO⟩
   have iU:=aO.size
   refine kG aO ?_
   have er:=((Kp.refl ([bq13]++zf zy22 gy22) T).gr aO)
   refine qh 0 rfl rfl er (fun w hS=>Zk (cs:=Xq.cs (Xq.mk (wd (Qc (bs+1))) cT)) Qj7 rfl rfl)<|qz [] rfl (Ha [(Xq.mk (wd (Qc (bs+1))) cT)] Xq.cs Qoe rfl rfl (Pc rfl) rfl rfl rfl) ⟨fun _=>Qf,fun _=>Qf,trivial⟩ ?_
   rintro hw iV ⟨hy,gh,cd,aP⟩
   have iW:=aP.size
   have hz:=cd.lth
   refine kG aP ?_
   have gi:=((eo.gr aO).gr aP)
   obtain⟨es,et,hm⟩:=Qd hm
   refine qz [(zy22,gy22)] rfl (Nk (l:=ap) (m:=[(Xq.mk (wd (Qc (bs+1))) cT)]) (c:=Xq.cs) Qnx rfl rfl gi (Qg.rd cd) et (by decide)) ⟨fun _=>(Qb (Qf:zy22=0∨(gy22=gy22∧zy22≠0)∨T.heap.size≤gy22)),fun _=>(Qb (Qf:zy22=0∨(gy22=gy22∧zy22≠0)∨T.heap.size≤gy22)),trivial⟩ ?_
   rintro ce iX ⟨eu,ew,cf,aq,hA,cg⟩
   have iY:=aq.size
   refine⟨Kz.ofKa aq,?_⟩
   have gj:=((er.gr aP).ka aq (Qb (Qf:zy22=0∨(gy22=gy22∧zy22≠0)∨T.heap.size≤gy22)))
   refine qh 0 rfl rfl gj (fun w hS=>Qh Fb rfl) ?_
   have gk:=(((cS.gr aO).gr aP).ka aq (Qb (Qo (b:=bq13) d (Qb p.o))))
   refine qz [(1,bq13)] rfl (Zp (cs':=Qy.cs (Qy.mk [] M es k0 (Xy p3 (Qs 53#8) 0#64)) vy15 ce) (Lu).siz rfl rfl (Qg.oneB cf) gk rfl rfl) ⟨fun _=>Qf,nofun,trivial⟩ ?_
   rintro _ gl ⟨ex,bM⟩
   have iZ:=bM.size
   refine kM bM<|Qk<|⟨_,_,rfl,Hj rfl,?_⟩
   refine Qk<|Xh<|Xl<|qg 2 rfl<|qv rfl (Zd (k:=.i64) (a:=ah) (b:=1) rfl rfl)<|qm rfl<|Qk ?_
   have K_80:Kz [(1,bq13),(zy16,gy16)] aM gl:=(((((h.gr ak).gr aO).gr aP).ka aq (Qb (Qp (A:=(fun x=>(x=gy16∧zy16≠0)∨aM.heap.size≤x)) d Qf))).md bM)
   have gm:=(cf.md bM (Nt cg (Qo d (Qb p.o))))
   subst cR
   exact⟨rfl,⟨n5,Qc (ah+1),es,ce,eu,ew⟩,Ql,⟨hm,gm,⟨(Tq (A:=(fun x=>(x=gy16∧zy16≠0)∨aM.heap.size≤x)) cg (Qp (A:=(fun x=>(x=gy16∧zy16≠0)∨aM.heap.size≤x)) d Qf))⟩,ex,K_80⟩,Nat.lt_succ_self _⟩
 refine Jl<|Xu<|Xu<|Jk<|Xl<|Qe<|Qe ?_
 refine qg 5 rfl<|qv rfl (Qh Wo rfl) ?_
 have ey:=(((((bG.gr Y6).kz F).gr y).md z).kz h (Qb (Qr (b:=b2) f)))
 refine qv rfl (Qi (v:=.int .i64 p1.Depth) Qm rfl ey rfl) ?_
 obtain⟨nn26,hnn26,hm⟩:=Qd hm
 refine qv rfl (Tf (a:=1) (b:=p1.Depth) rfl rfl hnn26)<|qv rfl (Zd (k:=.i64) (a:=Xw 1 nn26) (b:=1) rfl rfl)<|qm rfl<|Qa<|Xn ?_
 have gn:=(f6.kz h (Qb (Xm (A:=(fun x=>w.heap.size≤x)) f)))
 have i0:=(cQ.kz h (Zc ((Jh (Xm (A:=(fun x=>zp2=0∨x≠gp2)) f (fun x hx=>(Qb aU.o)))):zp2=0∨zy16=0∨gp2≠gy16) (Qw (b:=bq13) aU)))
 have ez:=(el.kz h (Zc ((Jh (Xm (A:=(fun x=>zy10=0∨x≠gy10)) f (fun x hx=>(Qb t.o)))):zy10=0∨zy16=0∨gy10≠gy16) (Qw (b:=bq13) t)))
 have eA:=(em.kz h (Zc ((Qb D.o):zy15=0∨zy16=0∨gy15≠gy16) ((Qb E.o):zy15=0∨gy15≠bq13)))
 refine Kf (α:=Nat × Int × List Xq × Value × Nat × Nat) ([22]++rg 105 11) (fun⟨n6,W,X,vy32,zy32,gy32⟩=>[(22,.int .i64 W)]) (fun⟨n6,W,X,vy32,zy32,gy32⟩ wr=>(Qv (Ey p1 p3 a9 M) n6 (W,X)=some r)∧Qg wr zy32 gy32 60 2 vy32 (X.map Xq.cs)∧Xd (zy32=0∨(gy32=gy22∧zy22≠0)∨aN.heap.size≤gy32)∧Bx wr bq13 50 (Qy.cs (Qy.mk [] M X k0 (Xy p3 (Qs 53#8) 0#64)) vy15 vy32)∧Kz [(1,bq13),(zy22,gy22)] aN wr) (fun⟨n6,W,X,vy32,zy32,gy32⟩=>n6) ⟨Xb,Qc ((Xw 1 nn26)+1),ap,vy22,zy22,gy22⟩ ?_ ?_ ?_
 · exact Ql
 · exact⟨hm,ai,⟨Qf⟩,aj,Kz.refl _ _⟩
 clear hm;rintro⟨n6,W,X,vy32,zy32,gy32⟩ i1 ⟨hm,R,g,S,C⟩
 have i2:=C.size
 have hB:=R.lth
 have hC:=S.lt
 have hb:=Kl hm;clear hm;obtain⟨n6,rfl,hm⟩:=hb
 generalize cU:Qv (Ey p1 p3 a9 M) n6=hD at hm
 unfold Ey at hm
 try dsimp only at hm
 refine Qe<|qs 6 rfl<|qv rfl (Qh Fb rfl)<|qv rfl (Qi (v:=vy32) Lu rfl S rfl)<|qv rfl (Kq (l:=X) (c:=Xq.cs) Tryz.underlying48 rfl (Qg.rd R))<|qv rfl (Qh Bo rfl) ?_
 have cV:=(ey.kz C (Qb (Qo (b:=b2) d (Qr f))))
 refine qv rfl (Qi (v:=.int .i64 p1.Degree) Qm rfl cV rfl)<|qv rfl (Jv (a:=(X.length:Int)) (b:=p1.Degree) rfl rfl)<|Qa<|Zv hm rfl (fun c9 hm=>?_) (fun c9 hm=>?_)
 · refine qu<|Qe<|Xn<|qg 3 rfl<|qn 2 rfl ?_
   refine Cj 16 Tryz.func120 rfl rfl rfl Qpp rfl rfl rfl rfl rfl<|dw [([bq13]++zf zy32 gy32),([]++zf zy32 gy32)] [(12,[1])] (.leaf [(0,10),(1,11),(2,10),(3,10),(4,10),(5,10),(6,10),(7,0),(8,10),(9,0),(10,0),(11,10),(12,0)]) ?_
   intro U al hE
   refine Zz<|qh 0 rfl rfl (Kp.refl ([bq13]++zf zy32 gy32) U) (fun w hS=>Qh Fb rfl) ?_
   have cW:=(S.gr al)
   refine qh 1 rfl rfl (Kp.refl ([]++zf zy32 gy32) U) (fun w hS=>Qi (v:=vy32) Lu rfl (Bx.kp cW hS (Qb (Qo (b:=bq13) g (Qo d (Qb p.o))))) rfl)<|dn 0 rfl rfl (Kp.refl ([bq13]++zf zy32 gy32) U)<|qh 0 rfl rfl (Kp.refl ([bq13]++zf zy32 gy32) U) (fun w hS=>Ww Wu rfl) ?_
   have go:=(((br.kz h (Qb (Qw (b:=av) N))).kz C (Qb (Qo (b:=av) d (Qw N)))).gr al)
   refine qh 0 rfl rfl (Kp.refl ([bq13]++zf zy32 gy32) U) (fun w hS=>Qi Qgj rfl (Bx.kp go hS (Qb (Qo (b:=av) g (Qo d (Qw N))))) rfl)<|dn 0 rfl rfl (Kp.refl ([bq13]++zf zy32 gy32) U)<|qh 0 rfl rfl (Kp.refl ([bq13]++zf zy32 gy32) U) (fun w hS=>Ww Wu rfl) ?_
   have gp:=(cV.gr al)
   have gq:=((eA.kz C (Zc ((Jh (Qp (A:=(fun x=>zy15=0∨x≠gy15)) d (Qb D.o) (fun x hx=>(Qb ao.o)))):zy15=0∨zy22=0∨gy15≠gy22) ((Qb E.o):zy15=0∨gy15≠bq13))).gr al)
   have eB:=(R.gr al)
   have gs:=(((((((O.gr Y7).kz F).gr y).md z).kz h (Qb (Qr (b:=bq8) f))).kz C (Qb (Qo (b:=bq8) d (Qr f)))).gr al)
   have gu:=((ez.kz C (Zc ((Jh (Qp (A:=(fun x=>zy10=0∨x≠gy10)) d (Xm (A:=(fun x=>zy10=0∨x≠gy10)) f (fun x hx=>(Qb t.o))) (fun x hx=>(Qb t.o)))):zy10=0∨zy22=0∨gy10≠gy22) (Qw (b:=bq13) t))).gr al)
   have gv:=(((((((P.gr Y7).kz F).gr y).md z).kz h (Qb (Qr (b:=bq11) f))).kz C (Qb (Qo (b:=bq11) d (Qr f)))).gr al)
   obtain⟨cX,eD,hm⟩:=Qd hm
   refine qz [] rfl (Yu Qjq rfl rfl (Qlx eD gp cW (Qg.rd gq) (Qg.rd eB) gs (Qg.rd gu) gv)) ⟨fun _=>Qf,fun _=>Qf,trivial⟩ ?_
   rintro _ i3 ⟨rfl,aQ⟩
   have i4:=aQ.size
   refine kG aQ ?_
   have ch:=((Kp.refl ([bq13]++zf zy32 gy32) U).gr aQ)
   refine qh 0 rfl rfl ch (fun w hS=>Zk (cs:=Xq.cs (Xq.mk (wd W) cX)) Qj7 rfl rfl)<|qz [] rfl (Ha [(Xq.mk (wd W) cX)] Xq.cs Qoe rfl rfl (Pc rfl) rfl rfl rfl) ⟨fun _=>Qf,fun _=>Qf,trivial⟩ ?_
   rintro hF i5 ⟨hG,gw,ci,aR⟩
   have hH:=aR.size
   have gx:=ci.lth
   refine kG aR ?_
   have eE:=((eB.gr aQ).gr aR)
   obtain⟨eF,eG,hm⟩:=Qd hm
   refine qz [(zy32,gy32)] rfl (Nk (l:=X) (m:=[(Xq.mk (wd W) cX)]) (c:=Xq.cs) Qnx rfl rfl eE (Qg.rd ci) eG (by decide)) ⟨fun _=>(Qb (Qf:zy32=0∨(gy32=gy32∧zy32≠0)∨U.heap.size≤gy32)),fun _=>(Qb (Qf:zy32=0∨(gy32=gy32∧zy32≠0)∨U.heap.size≤gy32)),trivial⟩ ?_
   rintro cj i6 ⟨eH,eI,ck,ar,hI,cl⟩
   have hJ:=ar.size
   refine⟨Kz.ofKa ar,?_⟩
   have eJ:=((ch.gr aR).ka ar (Qb (Qf:zy32=0∨(gy32=gy32∧zy32≠0)∨U.heap.size≤gy32)))
   refine qh 0 rfl rfl eJ (fun w hS=>Qh Fb rfl) ?_
   have eK:=(((cW.gr aQ).gr aR).ka ar (Qb (Qo (b:=bq13) g (Qo d (Qb p.o)))))
   refine qz [(1,bq13)] rfl (Zp (cs':=Qy.cs (Qy.mk [] M eF k0 (Xy p3 (Qs 53#8) 0#64)) vy15 cj) (Lu).siz rfl rfl (Qg.oneB ck) eK rfl rfl) ⟨fun _=>Qf,nofun,trivial⟩ ?_
   rintro _ gy ⟨eL,bN⟩
   have hK:=bN.size
   refine kM bN<|Qk<|⟨_,_,rfl,Hj rfl,?_⟩
   refine Qk<|Xh<|Xl<|qg 3 rfl<|qm rfl<|qv rfl (Zd (k:=.i64) (a:=W) (b:=1) rfl rfl)<|qm rfl ?_
   refine Qk ?_
   have K_108:Kz [(1,bq13),(zy22,gy22)] aN gy:=(((((C.gr al).gr aQ).gr aR).ka ar (Qb (Qp (A:=(fun x=>(x=gy22∧zy22≠0)∨aN.heap.size≤x)) g Qf))).md bN)
   have eM:=(ck.md bN (Nt cl (Qo g (Qo d (Qb p.o)))))
   subst cU
   exact⟨rfl,⟨n6,Qc (W+1),eF,cj,eH,eI⟩,Ql,⟨hm,eM,⟨(Tq (A:=(fun x=>(x=gy22∧zy22≠0)∨aN.heap.size≤x)) cl (Qp (A:=(fun x=>(x=gy22∧zy22≠0)∨aN.heap.size≤x)) g Qf))⟩,eL,K_108⟩,Nat.lt_succ_self _⟩
 refine Jl<|Xu<|Xu<|Jk<|Xl<|Qe<|dw [([bq13])] [] (.leaf [(0,10),(3,10),(1,0),(2,0),(4,0),(5,10),(6,0)]) ?_
 intro gz V hL
 refine Zz ?_
 have eN:=(((br.kz h (Qb (Qw (b:=av) N))).kz C (Qb (Qo (b:=av) d (Qw N)))).gr V)
 refine dh 0 rfl rfl (fun w hS=>Qi Qgj rfl (Bx.kp eN hS) rfl) ?_
 have Y9:=Gr.trans G4 G5
 have eO:=((((((((((ct.gr Y9).kz K7).kz an).gr Y7).kz F).gr y).md z).kz h (Qb (Qr (b:=b3) f))).kz C (Qb (Qo (b:=b3) d (Qr f)))).gr V)
 refine dh 0 rfl rfl (fun w hS=>Xa Xk rfl (Bx.kp eO hS) rfl) ?_
 have eP:=(cV.gr V)
 have cm:=(S.gr V)
 have cn:=((eA.kz C (Zc ((Jh (Qp (A:=(fun x=>zy15=0∨x≠gy15)) d (Qb D.o) (fun x hx=>(Qb ao.o)))):zy15=0∨zy22=0∨gy15≠gy22) ((Qb E.o):zy15=0∨gy15≠bq13))).gr V)
 have co:=(R.gr V)
 have eQ:=(((((((O.gr Y7).kz F).gr y).md z).kz h (Qb (Qr (b:=bq8) f))).kz C (Qb (Qo (b:=bq8) d (Qr f)))).gr V)
 have eR:=((ez.kz C (Zc ((Jh (Qp (A:=(fun x=>zy10=0∨x≠gy10)) d (Xm (A:=(fun x=>zy10=0∨x≠gy10)) f (fun x hx=>(Qb t.o))) (fun x hx=>(Qb t.o)))):zy10=0∨zy22=0∨gy10≠gy22) (Qw (b:=bq13) t))).gr V)
 have eS:=(((((((P.gr Y7).kz F).gr y).md z).kz h (Qb (Qr (b:=bq11) f))).kz C (Qb (Qo (b:=bq11) d (Qr f)))).gr V)
 obtain⟨i7,eT,hm⟩:=Qd hm
 refine qz [] rfl (Yu Qjq rfl rfl (Qlx eT eP cm (Qg.rd cn) (Qg.rd co) eQ (Qg.rd eR) eS)) ⟨fun _=>Qf,trivial⟩ ?_
 rintro _ i8 ⟨rfl,cY⟩
 have hM:=cY.size
 refine kG cY ?_
 obtain⟨bO,eU,hm⟩:=Qd hm
 refine qz [] rfl (eC Qyb rfl (Xeg eU)) ⟨fun _=>Qf,trivial⟩ ?_
 rintro _ i9 ⟨rfl,cZ⟩
 have hN:=cZ.size
 refine kG cZ<|qz [] rfl (eC Qcn rfl (Qfe bO p3 _)) ⟨fun _=>Qf,trivial⟩ ?_
 rintro _ ja ⟨rfl,c0⟩
 have hO:=c0.size
 refine kG c0 ?_
 have aS:=Gr.trans (Gr.trans cY cZ) c0
 have eV:=((Kp.refl ([bq13]) gz).gr aS)
 refine qh 0 rfl rfl eV (fun w hS=>Qh Qke rfl) ?_
 have eW:=(cm.gr aS)
 refine qz [(1,bq13)] rfl (Qab (cs':=Qy.cs (Qy.mk [] M X (Wz bO p3) (Xy p3 (Qs 53#8) 0#64)) vy15 vy32) (vs:=kb (Wz bO p3)) (Xk).siz rfl rfl rfl rfl rfl eW rfl (by obtain⟨cL,au⟩:=Ur (Xy p3 (Qs 53#8) 0#64);rw[←au];obtain⟨jb,gA⟩:=Ur (Wz bO p3);rw[←gA];first|done|rfl)) ⟨fun _=>Qf,trivial⟩ ?_
 rintro _ jc ⟨eX,aT⟩
 have hP:=aT.size
 refine kM aT<|qd 3 rfl<|qv rfl (Xa Jr rfl eX rfl) ?_
 have eY:=((((((((((((aV.gr G5).kz K7).kz an).gr Y7).kz F).gr y).md z).kz h (Qb (Qr (b:=b4) f))).kz C (Qb (Qo (b:=b4) d (Qr f)))).gr V).gr aS).md aT)
 have cp:=((cn.gr aS).md aT (Qb ((Qb E.o):zy15=0∨gy15≠bq13)))
 have cq:=((co.gr aS).md aT (Qo g (Qo d (Qb p.o))))
 refine qe rfl (Xf Jr rfl rfl (Qy.cs_ones _ _ _ (Qg.oneB cp) (Qg.oneB cq)) eY rfl rfl) ?_
 rintro _ jd ⟨eZ,bP⟩
 have hQ:=bP.size
 refine qm rfl<|Qa<|Qq ?_
 have e0:=(cp.md bP (Qr ay))
 have e1:=(cq.md bP (Qo g (Qo d (Qr f))))
 have e2:=(((((gn.kz C (Qb (Qp (A:=(fun x=>w.heap.size≤x)) d (Xm (A:=(fun x=>w.heap.size≤x)) f)))).trans V).trans aS).md aT).md bP)
 cases hm
 exact⟨_,_,rfl,Za rfl (Zf Jr rfl eZ rfl) (Qn rfl),vy15,zy15,gy15,vy32,zy32,gy32,rfl,e0,⟨(Xm (A:=(fun x=>w.heap.size≤x)) ay)⟩,e1,⟨(Qp (A:=(fun x=>w.heap.size≤x)) g (Qp (A:=(fun x=>w.heap.size≤x)) d (Xm (A:=(fun x=>w.heap.size≤x)) f)))⟩,⟨(Qp (A:=(fun x=>zy15=0∨x≠gy15)) g (Qp (A:=(fun x=>zy15=0∨x≠gy15)) d (Qb D.o) (fun x hx=>(Qb ao.o))) (fun x hx=>(Qb ao.o)))⟩,e2⟩
end Go.Proofs.YtopkalcefepilaaGreat.Mx
