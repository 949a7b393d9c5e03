/- Walks that follow mirrors: Hd. Printed by mx.py. -/
import Derived.Test.YtopkalcefepilaaGreatHc
import Derived.Test.YtopkalcefepilaaGreatZd
set_option linter.unusedVariables false
set_option linter.unusedSimpArgs false
set_option maxRecDepth 100000
set_option maxHeartbeats 2000000
namespace Go.Proofs.YtopkalcefepilaaGreat.Mx
open Go Go.RowKit Go.Sx
theorem Qjw:En Tryz.prog 35:=fun _ _=>by kernel_rfl
theorem Wl:ZV Tryz.prog 91 (.agg [.nilFunc,.nilFunc,.nilFunc,.nilFunc].toArray):=fun _=>by kernel_rfl
theorem El:Ku Tryz.prog 46:=fun _=>⟨by kernel_rfl,by kernel_rfl⟩
theorem Ql7:Ku Tryz.prog 64:=fun _=>⟨by kernel_rfl,by kernel_rfl⟩
theorem Xdl:Ku Tryz.prog 88:=fun _=>⟨by kernel_rfl,by kernel_rfl⟩
theorem Ql8:Ku Tryz.prog 89:=fun _=>⟨by kernel_rfl,by kernel_rfl⟩
theorem Gi:BS Tryz.prog 91 (fun i=>[(0,1),(1,1),(2,1),(3,1)][i]?) [.nilFunc,.nilFunc,.nilFunc,.nilFunc]:=Dc Tryz.underlying91 Wl ⟨rfl,(El).siz,rfl,(Ql7).siz,rfl,(Xdl).siz,rfl,(Ql8).siz,trivial⟩
theorem Zo:Ky Tryz.prog 91 4:=fun _=>⟨by kernel_rfl,by kernel_rfl⟩
theorem Qiu:ZV Tryz.prog 131 (.agg [.nilFunc,.nilFunc,.nilFunc,.nilFunc,.nilFunc,.nilFunc,.nilFunc,.nilFunc,.nilFunc,.nilFunc,.nilFunc,.nilFunc,.nilFunc,.nilFunc,.nilFunc,.nilFunc,.nilFunc,.nilFunc,.nilFunc,.nilFunc].toArray):=fun _=>by kernel_rfl
theorem Qj2:BA Tryz.prog 131 4 [.nilFunc,.nilFunc,.nilFunc,.nilFunc,.nilFunc,.nilFunc,.nilFunc,.nilFunc,.nilFunc,.nilFunc,.nilFunc,.nilFunc,.nilFunc,.nilFunc,.nilFunc,.nilFunc,.nilFunc,.nilFunc,.nilFunc,.nilFunc]:=⟨_,_,Tryz.underlying131,(Zo).siz,Qiu⟩
theorem Qiy:Ky Tryz.prog 131 20:=fun _=>⟨by kernel_rfl,by kernel_rfl⟩
theorem Gm:CV Tryz.prog 5 3 .i64:=fun _ _ _=>by kernel_rfl
theorem Qaj:FA Tryz.prog 91 0 0:=fun _ _ _=>by kernel_rfl
theorem Qeb:ZV Tryz.prog 53 (.agg [.int .u8 0,.int .i64 0,.slice none 0 0,.int .u64 0,.slice none 0 0,.int .u8 0,.int .u8 0,.int .u8 0,.int .u8 0,.int .u8 0,.int .u8 0,.int .u8 0,.int .u8 0,.int .u8 0,.int .u8 0,.int .u8 0,.int .u8 0,.int .u8 0,.int .u8 0,.int .u8 0,.int .u8 0,.int .u8 0,.int .u8 0,.int .u8 0,.int .u8 0,.int .u8 0,.int .u8 0,.int .u8 0,.int .u8 0,.int .u8 0,.int .u8 0,.int .u8 0,.int .u8 0,.int .u8 0,.int .u8 0,.int .u8 0,.int .u8 0,.int .u8 0,.int .u64 0,.slice none 0 0,.int .u8 0,.int .u8 0,.int .u8 0,.int .u8 0,.int .u8 0,.int .u8 0,.int .u8 0,.int .u8 0,.int .u8 0,.int .u8 0,.int .u8 0,.int .u8 0,.int .u8 0,.int .u8 0,.int .u8 0,.int .u8 0].toArray):=fun _=>by kernel_rfl
theorem Qjz:En Tryz.prog 66:=fun _ _=>by kernel_rfl
theorem Qz3:En Tryz.prog 41:=fun _ _=>by kernel_rfl
theorem Qy8:En Tryz.prog 108:=fun _ _=>by kernel_rfl
theorem Qqz:FA Tryz.prog 91 3 3:=fun _ _ _=>by kernel_rfl
theorem Qjx:En Tryz.prog 38:=fun _ _=>by kernel_rfl
theorem Qz9:En Tryz.prog 62:=fun _ _=>by kernel_rfl
theorem Qzb:En Tryz.prog 65:=fun _ _=>by kernel_rfl
theorem Qz0:En Tryz.prog 36:=fun _ _=>by kernel_rfl
theorem Gx:Ku Tryz.prog 51:=fun _=>⟨by kernel_rfl,by kernel_rfl⟩
theorem Qob:BS Tryz.prog 53 (fun i=>[(0,1),(1,1),(2,35),(37,1),(38,1),(39,1),(40,16)][i]?) [.int .u8 0,.int .i64 0,.slice none 0 0,.int .u64 0,.slice none 0 0,.int .u8 0,.int .u8 0,.int .u8 0,.int .u8 0,.int .u8 0,.int .u8 0,.int .u8 0,.int .u8 0,.int .u8 0,.int .u8 0,.int .u8 0,.int .u8 0,.int .u8 0,.int .u8 0,.int .u8 0,.int .u8 0,.int .u8 0,.int .u8 0,.int .u8 0,.int .u8 0,.int .u8 0,.int .u8 0,.int .u8 0,.int .u8 0,.int .u8 0,.int .u8 0,.int .u8 0,.int .u8 0,.int .u8 0,.int .u8 0,.int .u8 0,.int .u8 0,.int .u8 0,.int .u64 0,.slice none 0 0,.int .u8 0,.int .u8 0,.int .u8 0,.int .u8 0,.int .u8 0,.int .u8 0,.int .u8 0,.int .u8 0,.int .u8 0,.int .u8 0,.int .u8 0,.int .u8 0,.int .u8 0,.int .u8 0,.int .u8 0,.int .u8 0]:=Dc Tryz.underlying53 Qeb ⟨rfl,(Zb).siz,rfl,(Qm).siz,rfl,(Jr).siz,rfl,(Zb).siz,rfl,(Zw).siz,rfl,(Gx).siz,rfl,(Xk).siz,trivial⟩
theorem Th:Ky Tryz.prog 53 56:=fun _=>⟨by kernel_rfl,by kernel_rfl⟩
theorem Xid:ZV Tryz.prog 144 (.agg [.slice none 0 0].toArray):=fun _=>by kernel_rfl
theorem Qwl:BS Tryz.prog 144 (fun i=>[(0,1)][i]?) [.slice none 0 0]:=Dc Tryz.underlying144 Xid ⟨rfl,(Gx).siz,trivial⟩
theorem Qkf:FA Tryz.prog 53 0 0:=fun _ _ _=>by kernel_rfl
theorem Qah:FA Tryz.prog 144 0 0:=fun _ _ _=>by kernel_rfl
theorem Gl:CV Tryz.prog 22 5 .u8:=fun _ _ _=>by kernel_rfl
theorem Xif:ZV Tryz.prog 5 (.int .u8 0):=fun _=>by kernel_rfl
theorem Qwu:Du Tryz.prog 51 1 5 1 [.int .u8 0]:=Nf Tryz.underlying51 (Zb).siz Xif rfl rfl (by kernel_rfl)
theorem Qc1:Dt Tryz.prog 51 5 1 1:=Rs Tryz.underlying51 rfl (by kernel_rfl)
theorem Gn:En Tryz.prog 71:=fun _ _=>by kernel_rfl
theorem Qkg:FA Tryz.prog 53 3 37:=fun _ _ _=>by kernel_rfl
theorem Qqw:FA Tryz.prog 53 4 38:=fun _ _ _=>by kernel_rfl
theorem Qfp:FA Tryz.prog 53 5 39:=fun _ _ _=>by kernel_rfl
theorem Qfo:FA Tryz.prog 53 1 1:=fun _ _ _=>by kernel_rfl
theorem Bp:FA Tryz.prog 53 2 2:=fun _ _ _=>by kernel_rfl
theorem Qag:FA Tryz.prog 139 0 0:=fun _ _ _=>by kernel_rfl
theorem Xak:FA Tryz.prog 139 1 2:=fun _ _ _=>by kernel_rfl
theorem Qk0:En Tryz.prog 72:=fun _ _=>by kernel_rfl
theorem Xam:FA Tryz.prog 60 0 0:=fun _ _ _=>by kernel_rfl
theorem Xan:FA Tryz.prog 60 1 1:=fun _ _ _=>by kernel_rfl
theorem Qqv:FA Tryz.prog 50 4 19:=fun _ _ _=>by kernel_rfl
theorem Qzz:Ps Tryz.prog 2 39 [.i .u8,.i .u8,.i .u8,.i .u8,.i .u8,.i .u8,.i .u8,.i .u8,.i .u8,.i .u8,.i .u8,.i .u8,.i .u8,.i .u8,.i .u8,.i .u8]:=Xa1 (ks:=[.i .u8]) Tryz.underlying39 (Xb2 (by kernel_rfl)).choose_spec (by kernel_rfl) Xk Qqe
theorem Qkb:Rq Tryz.prog 39 [.i .u8,.i .u8,.i .u8,.i .u8,.i .u8,.i .u8,.i .u8,.i .u8,.i .u8,.i .u8,.i .u8,.i .u8,.i .u8,.i .u8,.i .u8,.i .u8]:=⟨by kernel_rfl,Xk,2,by decide,Qzz⟩
theorem Qye:En Tryz.prog 124:=fun _ _=>by kernel_rfl
theorem Qyd:En Tryz.prog 123:=fun _ _=>by kernel_rfl
theorem Qyc:En Tryz.prog 122:=fun _ _=>by kernel_rfl
theorem Qf6:En Tryz.prog 40:=fun _ _=>by kernel_rfl
theorem Qfa:En Tryz.prog 67:=fun _ _=>by kernel_rfl
theorem Qz1:En Tryz.prog 37:=fun _ _=>by kernel_rfl
theorem Qqx:FA Tryz.prog 53 6 40:=fun _ _ _=>by kernel_rfl
theorem Qzc:En Tryz.prog 69:=fun _ _=>by kernel_rfl
theorem Qyg:En Tryz.prog 126:=fun _ _=>by kernel_rfl
theorem Qzd:En Tryz.prog 70:=fun _ _=>by kernel_rfl
theorem Qz2:En Tryz.prog 39:=fun _ _=>by kernel_rfl
theorem Qqy:FA Tryz.prog 91 1 1:=fun _ _ _=>by kernel_rfl
theorem Qz8:En Tryz.prog 60:=fun _ _=>by kernel_rfl
theorem Qza:En Tryz.prog 63:=fun _ _=>by kernel_rfl
theorem Qzt {p0 r}(hm:Uk p0=some r){w:World}:
 Calls Tryz.prog 11 [.agg (Qj.cs p0).toArray].toArray w fun e w'=>∃ v,e=.returned v∧(v=.int .i64 r∧Gr w w'):=by
 unfold Uk at hm
 refine Xi 11 Tryz.func11 rfl rfl rfl<|qs 2 rfl<|qe rfl (Xo (cs:=Qj.cs p0) rfl rfl) ?_
 rintro _ w1 ⟨b1,rfl,aq,D,G1⟩
 have z1:=G1.size
 have aI:=D.lt
 refine qm rfl<|qd 8 rfl<|qv rfl (Xa Zq rfl D rfl)<|Cj 33 Tryz.func35 rfl rfl rfl Qjw rfl rfl rfl rfl rfl<|Qe ?_
 refine qg 3 rfl<|qe rfl (Xo (cs:=Qj.cs p0) rfl rfl) ?_
 rintro _ w2 ⟨b2,rfl,ar,z,G2⟩
 have z3:=G2.size
 have aJ:=z.lt
 refine qe rfl (Xg (cs:=[.nilFunc,.nilFunc,.nilFunc,.nilFunc]) Wl rfl) ?_
 rintro _ w3 ⟨b3,rfl,au,f,G3⟩
 have z5:=G3.size
 have aK:=f.lt
 refine qm rfl<|qd 3 rfl<|qv rfl (Zk (cs:=[.func (.func 59) #[] #[],.func (.func 60) #[] #[],.func (.func 61) #[] #[],.func (.func 62) #[] #[]]) Gi rfl rfl)<|qe rfl (Xg (cs:=[.nilFunc,.nilFunc,.nilFunc,.nilFunc]) Wl rfl) ?_
 rintro _ w4 ⟨b4,rfl,av,E,G4⟩
 have z7:=G4.size
 have aL:=E.lt
 refine qe rfl (Xf Zo rfl rfl rfl E rfl rfl) ?_
 rintro _ w5 ⟨A,M5⟩
 have z9:=M5.size
 refine qd 8 rfl<|qv rfl (Zk (cs:=[.nilFunc,.nilFunc,.nilFunc,.nilFunc]) Gi rfl rfl)<|qv rfl (Vk (vs:=[.func (.func 59) #[] #[],.func (.func 60) #[] #[],.func (.func 61) #[] #[],.func (.func 62) #[] #[]]) Zo rfl A rfl rfl)<|qv rfl (Vk (vs:=[.func (.func 59) #[] #[],.func (.func 60) #[] #[],.func (.func 61) #[] #[],.func (.func 62) #[] #[]]) Zo rfl A rfl rfl)<|qv rfl (Vk (vs:=[.func (.func 59) #[] #[],.func (.func 60) #[] #[],.func (.func 61) #[] #[],.func (.func 62) #[] #[]]) Zo rfl A rfl rfl) ?_
 refine qv rfl (Zk (cs:=[.func (.func 30) #[] #[],.func (.func 63) #[] #[],.func (.func 64) #[] #[],.func (.func 65) #[] #[]]) Gi rfl rfl)<|qv rfl (Qii (cs:=[.nilFunc,.nilFunc,.nilFunc,.nilFunc,.func (.func 59) #[] #[],.func (.func 60) #[] #[],.func (.func 61) #[] #[],.func (.func 62) #[] #[],.func (.func 59) #[] #[],.func (.func 60) #[] #[],.func (.func 61) #[] #[],.func (.func 62) #[] #[],.func (.func 59) #[] #[],.func (.func 60) #[] #[],.func (.func 61) #[] #[],.func (.func 62) #[] #[],.func (.func 30) #[] #[],.func (.func 63) #[] #[],.func (.func 64) #[] #[],.func (.func 65) #[] #[]]) Qj2 rfl rfl)<|qe rfl (Xg (cs:=[.nilFunc,.nilFunc,.nilFunc,.nilFunc,.nilFunc,.nilFunc,.nilFunc,.nilFunc,.nilFunc,.nilFunc,.nilFunc,.nilFunc,.nilFunc,.nilFunc,.nilFunc,.nilFunc,.nilFunc,.nilFunc,.nilFunc,.nilFunc]) Qiu rfl) ?_
 rintro _ w6 ⟨b6,rfl,aw,F,G6⟩
 have aM:=G6.size
 have ax:=F.lt
 refine qe rfl (Xf Qiy rfl rfl rfl F rfl rfl) ?_
 rintro _ w7 ⟨G,M7⟩
 have aN:=M7.size
 refine Qa<|Qe ?_
 have B:=((((((((Gr.refl w).trans G1).trans G2).trans G3).trans G4).md M5).trans G6).md M7)
 refine qj (β:=Bool) (rg 14 9) (fun a1=>[(22,.bool a1)]) (fun a1 wr=>(Qa6 p0 a1=some r)∧Kz [] w7 wr) ?_ ?_
 · refine qg 9 rfl<|qv rfl (Qh Ye rfl) ?_
   have H:=(((((z.gr G3).gr G4).md M5).gr G6).md M7)
   refine qv rfl (Qi (v:=bv p0.Kind) Zb rfl H rfl)<|qv rfl (Qbp (p:=p0.Kind) (q:=1#8) rfl rfl)<|Ji hm rfl (Qt rfl) (fun c4 hm=>?_) (fun c4 hm=>?_)
   · refine qn 5 rfl<|Qk ?_
     exact⟨rfl,true,Ql,hm,Xe⟩
   refine qv rfl (Qh Ye rfl)<|qv rfl (Qi (v:=bv p0.Kind) Zb rfl H rfl)<|qv rfl (Qne Gm rfl)<|qv rfl (Wk (a:=Qs p0.Kind) (b:=5) rfl rfl)<|qm rfl<|Qk ?_
   exact⟨rfl,(decide ((5:Int)≤Qs p0.Kind)),Ql,hm,Xe⟩
 clear hm;rintro a1 w8 ⟨hm,K8⟩
 have aO:=K8.size
 unfold Qa6 at hm
 refine Jo hm rfl (fun c1 hm=>?_) (fun c1 hm=>?_)
 · refine qs 3 rfl<|qv rfl (Zk (cs:=[.nilFunc,.nilFunc,.nilFunc,.nilFunc]) Gi rfl rfl) ?_
   have U:=(((((f.gr G4).md M5).gr G6).md M7).kz K8)
   refine qe rfl (Xf Zo rfl rfl rfl U rfl rfl) ?_
   rintro _ w9 ⟨V,M9⟩
   have aP:=M9.size
   refine qm rfl<|qb<|⟨_,_,rfl,Za rfl (Zf Zo rfl V rfl) (Qn rfl),?_⟩
   refine qn 3 rfl<|qe rfl (Xg (cs:=[.nilFunc,.nilFunc,.nilFunc,.nilFunc]) Wl rfl) ?_
   rintro _ aQ ⟨aR,rfl,W,s,I⟩
   have aS:=I.size
   have ay:=s.lt
   refine qe rfl (Xf Zo rfl rfl rfl s rfl rfl) ?_
   rintro _ aT ⟨az,J⟩
   have aU:=J.size
   refine qm rfl<|qd 2 rfl<|qn 2 rfl<|Qa ?_
   refine Qq ?_
   have X:=((((B.kz K8).md M9).trans I).md J)
   cases hm
   exact⟨_,_,rfl,Qz rfl (Qn rfl),rfl,X⟩
 refine qu<|qs 6 rfl<|qv rfl (Qh Ye rfl) ?_
 have C:=((((((z.gr G3).gr G4).md M5).gr G6).md M7).kz K8)
 refine qv rfl (Qi (v:=bv p0.Kind) Zb rfl C rfl) ?_
 by_cases c2:(Qs p0.Kind=1∨Qs p0.Kind=2∨Qs p0.Kind=3)
 · replace hm:=Hg c2 hm
   refine qv rfl (Qbn Tryz.underlying131 (Zo).siz rfl rfl (by omega)) ?_
   have Y:=(G.kz K8)
   refine qv rfl (Vk (vs:=[.func (.func 59) #[] #[],.func (.func 60) #[] #[],.func (.func 61) #[] #[],.func (.func 62) #[] #[]]) Zo rfl Y (by rcases c2 with h|h|h<;>rw[h]<;>rfl) rfl)<|qe rfl (Xg (cs:=[.nilFunc,.nilFunc,.nilFunc,.nilFunc]) Wl rfl) ?_
   rintro _ aV ⟨aW,rfl,Z,t,g⟩
   have aX:=g.size
   have aA:=t.lt
   refine qe rfl (Xf Zo rfl rfl rfl t rfl rfl) ?_
   rintro _ aY ⟨K,i⟩
   have aZ:=i.size
   refine Qa<|Qe<|dw [([b3])] [] (.leaf [(0,10),(1,10),(2,10),(3,10),(4,0),(5,0),(6,10)]) ?_
   intro aa j aB
   refine Zz ?_
   have L:=(K.gr j)
   refine dh 0 rfl rfl (fun w hS=>Vk (vs:=[.func (.func 59) #[] #[],.func (.func 60) #[] #[],.func (.func 61) #[] #[],.func (.func 62) #[] #[]]) Zo rfl (Bx.kp L hS) rfl rfl)<|dh 0 rfl rfl (fun w hS=>Qh Qaj rfl)<|dh 0 rfl rfl (fun w hS=>Qi (v:=.func (.func 59) #[] #[]) El rfl (Bx.kp L hS) rfl) ?_
   have ab:=(((C.gr g).md i).gr j)
   refine dh 0 rfl rfl (fun w hS=>Xa Zq rfl (Bx.kp ab hS) rfl) ?_
   obtain⟨x2,ac,hm⟩:=Qd hm
   refine qz [] rfl (Yu Qa4 rfl rfl (Oc ac)) ⟨fun _=>Qf,trivial⟩ ?_
   rintro _ a0 ⟨rfl,c⟩
   have a2:=c.size
   refine kG c ?_
   have ad:=(((((((((f.gr G4).md M5).gr G6).md M7).kz K8).gr g).md i).gr j).gr c)
   refine qz [(1,b3)] rfl (Xf Zo rfl rfl rfl ad rfl rfl) ⟨fun _=>Qf,trivial⟩ ?_
   rintro _ a3 ⟨M,k⟩
   have a4:=k.size
   refine kM k ?_
   have ae:=(((Kp.refl ([b3]) aa).gr c).md k)
   refine dn 0 rfl rfl ae<|Qa<|Qq<|⟨_,_,rfl,Za rfl (Zf Zo rfl M rfl) (Qn rfl),?_⟩
   refine qn 3 rfl<|qe rfl (Xg (cs:=[.nilFunc,.nilFunc,.nilFunc,.nilFunc]) Wl rfl) ?_
   rintro _ a5 ⟨a6,rfl,af,u,N⟩
   have a7:=N.size
   have aC:=u.lt
   refine qe rfl (Xf Zo rfl rfl rfl u rfl rfl) ?_
   rintro _ a8 ⟨aD,O⟩
   have a9:=O.size
   refine qm rfl<|qd 2 rfl<|qn 2 rfl<|Qa ?_
   refine Qq ?_
   have ag:=((((((((B.kz K8).trans g).md i).trans j).trans c).md k).trans N).md O)
   cases hm
   exact⟨_,_,rfl,Qz rfl (Qn rfl),rfl,ag⟩
 replace hm:=Hf c2 hm
 by_cases c3:(Qs p0.Kind=4)
 · replace hm:=Hg c3 hm
   refine qv rfl (Qbn Tryz.underlying131 (Zo).siz rfl rfl (by omega)) ?_
   have ah:=(G.kz K8)
   refine qv rfl (Vk (vs:=[.func (.func 30) #[] #[],.func (.func 63) #[] #[],.func (.func 64) #[] #[],.func (.func 65) #[] #[]]) Zo rfl ah (by rw[c3];rfl) rfl)<|qe rfl (Xg (cs:=[.nilFunc,.nilFunc,.nilFunc,.nilFunc]) Wl rfl) ?_
   rintro _ ba ⟨bb,rfl,ai,x,l⟩
   have bc:=l.size
   have aE:=x.lt
   refine qe rfl (Xf Zo rfl rfl rfl x rfl rfl) ?_
   rintro _ bd ⟨P,m⟩
   have bf:=m.size
   refine Qa<|Qe<|dw [([b3])] [] (.leaf [(0,10),(1,10),(2,10),(3,10),(4,0),(5,0),(6,10)]) ?_
   intro aj n aF
   refine Zz ?_
   have Q:=(P.gr n)
   refine dh 0 rfl rfl (fun w hS=>Vk (vs:=[.func (.func 30) #[] #[],.func (.func 63) #[] #[],.func (.func 64) #[] #[],.func (.func 65) #[] #[]]) Zo rfl (Bx.kp Q hS) rfl rfl)<|dh 0 rfl rfl (fun w hS=>Qh Qaj rfl)<|dh 0 rfl rfl (fun w hS=>Qi (v:=.func (.func 30) #[] #[]) El rfl (Bx.kp Q hS) rfl) ?_
   have ak:=(((C.gr l).md m).gr n)
   refine dh 0 rfl rfl (fun w hS=>Xa Zq rfl (Bx.kp ak hS) rfl) ?_
   obtain⟨x3,al,hm⟩:=Qd hm
   refine qz [] rfl (Yu Qf4 rfl rfl (Qhk al)) ⟨fun _=>Qf,trivial⟩ ?_
   rintro _ bg ⟨rfl,d⟩
   have bh:=d.size
   refine kG d ?_
   have am:=(((((((((f.gr G4).md M5).gr G6).md M7).kz K8).gr l).md m).gr n).gr d)
   refine qz [(1,b3)] rfl (Xf Zo rfl rfl rfl am rfl rfl) ⟨fun _=>Qf,trivial⟩ ?_
   rintro _ bi ⟨R,o⟩
   have bj:=o.size
   refine kM o ?_
   have an:=(((Kp.refl ([b3]) aj).gr d).md o)
   refine dn 0 rfl rfl an<|Qa<|Qq<|⟨_,_,rfl,Za rfl (Zf Zo rfl R rfl) (Qn rfl),?_⟩
   refine qn 3 rfl<|qe rfl (Xg (cs:=[.nilFunc,.nilFunc,.nilFunc,.nilFunc]) Wl rfl) ?_
   rintro _ bk ⟨bl,rfl,ao,y,S⟩
   have bm:=S.size
   have aG:=y.lt
   refine qe rfl (Xf Zo rfl rfl rfl y rfl rfl) ?_
   rintro _ bo ⟨aH,T⟩
   have bp:=T.size
   refine qm rfl<|qd 2 rfl<|qn 2 rfl<|Qa ?_
   refine Qq ?_
   have ap:=((((((((B.kz K8).trans l).md m).trans n).trans d).md o).trans S).md T)
   cases hm
   exact⟨_,_,rfl,Qz rfl (Qn rfl),rfl,ap⟩
 replace hm:=Hf c3 hm
 cases hm
theorem Qk7 {p0 r}(hm:Dh p0=some r){w:World}:
 Calls Tryz.prog 66 [.int .i64 p0].toArray w fun e w'=>∃ v,e=.returned v∧(v=.bool r∧Gr w w'):=by
 unfold Dh at hm
 refine Xi 9 Tryz.func66 rfl rfl rfl<|qs 1 rfl<|qm rfl<|qd 7 rfl ?_
 refine qm rfl<|qv rfl (Wk (a:=p0) (b:=0) rfl rfl)<|Ji hm rfl (Qt rfl) (fun c1 hm=>?_) (fun c1 hm=>?_)
 · refine qm rfl<|qv rfl (Tt (a:=p0) (b:=1099511627776) rfl rfl)<|qn 2 rfl<|Qa<|Qq ?_
   cases hm
   exact⟨_,_,rfl,Qz rfl (Qn rfl),rfl,(Gr.refl w)⟩
 refine qn 4 rfl<|Qa<|Qq ?_
 cases hm
 exact⟨_,_,rfl,Qz rfl (Qn rfl),rfl,(Gr.refl w)⟩
theorem Qk5 {p0 p1 r}(hm:Sw p0 p1=some r){w:World}:
 Calls Tryz.prog 38 [kv p0,.int .i64 p1].toArray w fun e w'=>∃ v,e=.returned v∧(v=kv r∧Gr w w'):=by
 unfold Sw at hm
 refine Xi 9 Tryz.func38 rfl rfl rfl<|qs 2 rfl<|qe rfl (Xo (cs:=kb p0) rfl rfl) ?_
 rintro _ w1 ⟨b1,rfl,d,a,G1⟩
 have z1:=G1.size
 have g:=a.lt
 refine qe rfl (Xg (cs:=kb k0) Yr rfl) ?_
 rintro _ w2 ⟨b2,rfl,f,b,G2⟩
 have z3:=G2.size
 have h:=b.lt
 refine qd 5 rfl ?_
 have B5:=(a.gr G2)
 refine qv rfl (Xa Xk rfl B5 rfl)<|qm rfl<|qv rfl (Ww Wu rfl)<|qe rfl (eC Dg rfl (Dd p0 (Qs 50#8) (Hv _) (Hu _) (wd p1) _)) ?_
 rintro _ w3 ⟨rfl,G3⟩
 have z6:=G3.size
 have B7:=(b.gr G3)
 refine qe rfl (Xf Xk rfl rfl rfl B7 rfl rfl) ?_
 rintro _ w4 ⟨c,M4⟩
 have z8:=M4.size
 refine Qa<|Qq ?_
 have X9:=(((((Gr.refl w).trans G1).trans G2).trans G3).md M4)
 cases hm
 exact⟨_,_,rfl,Qz rfl (Zf Xk rfl c rfl),rfl,X9⟩
theorem Qzw {p0 p1 p2 p3 p4 vp2 zp2 gp2 op2 r}(hm:Um p0 p1 p2 p3 p4=some r){w:World}(q:Rd w zp2 gp2 op2 1 vp2 (p2.map ic)):
 Calls Tryz.prog 62 [kv p0,.agg (Qj.cs p1).toArray,vp2,kv p3,wv p4].toArray w fun e w'=>∃ v,e=.returned v∧(∃ ur0_0 zr0_0 gr0_0 ur0_2 zr0_2 gr0_2,v=.tuple [.agg (Qy.cs r.1 ur0_0 ur0_2).toArray,.int .i64 r.2].toArray∧Qg w' zr0_0 gr0_0 139 18 ur0_0 (r.1.Items.map Zr.cs)∧Xd (zr0_0=0∨w.heap.size≤gr0_0)∧Qg w' zr0_2 gr0_2 60 2 ur0_2 (r.1.Points.map Xq.cs)∧Xd (zr0_2=0∨w.heap.size≤gr0_2)∧Xd (zr0_2=0∨zr0_0=0∨gr0_2≠gr0_0)∧Gr w w'):=by
 have aa:=q.lth
 unfold Um at hm
 refine Xi 31 Tryz.func62 rfl rfl rfl<|qs 5 rfl<|qe rfl (Xo (cs:=kb p0) rfl rfl) ?_
 rintro _ w1 ⟨b1,rfl,T,s,G1⟩
 have z2:=G1.size
 have ab:=s.lt
 refine qe rfl (Xo (cs:=Qj.cs p1) rfl rfl) ?_
 rintro _ w2 ⟨b2,rfl,U,t,G2⟩
 have z4:=G2.size
 have ac:=t.lt
 refine qe rfl (Xo (cs:=kb p3) rfl rfl) ?_
 rintro _ w3 ⟨b3,rfl,V,u,G3⟩
 have z6:=G3.size
 have ad:=u.lt
 refine qe rfl (Xg (cs:=Qy.cs (Qy.mk [] 0#64 [] k0 k0) (.slice none 0 0) (.slice none 0 0)) Lf rfl) ?_
 rintro _ w4 ⟨b4,rfl,W,p,G4⟩
 have z8:=G4.size
 have ae:=p.lt
 refine qm rfl<|qd 8 rfl ?_
 have Y1:=Gr.trans G3 G4
 have y:=(t.gr Y1)
 refine qv rfl (Xa Zq rfl y rfl)<|qm rfl ?_
 have Y2:=Gr.trans (Gr.trans G1 G2) Y1
 have F:=(q.gr Y2)
 obtain⟨x1,G,hm⟩:=Qd hm
 refine qe rfl (eC Qz3 rfl (Qxm G F)) ?_
 rintro _ w5 ⟨z,B,C,rfl,f,D,G5⟩
 have af:=G5.size
 have X:=f.lth
 refine qn 5 rfl<|Qa<|Qe ?_
 refine qs 2 rfl<|qm rfl<|qv rfl (Kg (a:=x1.2) (b:=0) rfl rfl)<|Qa<|Zv hm rfl (fun c1 hm=>?_) (fun c1 hm=>?_)
 · refine qs 4 rfl<|qv rfl (Zk (cs:=Qy.cs (Qy.mk [] 0#64 [] k0 k0) (.slice none 0 0) (.slice none 0 0)) Db rfl (by kernel_rfl))<|qm rfl ?_
   have H:=(p.gr G5)
   refine qe rfl (Xf Jr rfl rfl (Qy.cs_ones _ _ _ rfl rfl) H rfl rfl) ?_
   rintro _ w6 ⟨I,M6⟩
   have ag:=M6.size
   refine qm rfl<|qb ?_
   have J:=((((Gr.refl w).trans Y2).trans G5).md M6)
   cases hm
   exact⟨_,_,rfl,Za rfl (Zf Jr rfl I rfl) (Qn rfl),(.slice none 0 0),0,0,(.slice none 0 0),0,0,rfl,(Zi _ 0 139 18),⟨.inl rfl⟩,(Zi _ 0 60 2),⟨.inl rfl⟩,⟨(.inl rfl)⟩,J⟩
 refine qu<|qs 9 rfl ?_
 have Y3:=Gr.trans (Gr.trans G2 Y1) G5
 have K:=(s.gr Y3)
 refine qv rfl (Xa Xk rfl K rfl) ?_
 have L:=(y.gr G5)
 refine qv rfl (Xa Zq rfl L rfl)<|qm rfl ?_
 have Y4:=Gr.trans G4 G5
 have M:=(u.gr Y4)
 refine qv rfl (Xa Xk rfl M rfl) ?_
 obtain⟨x2,N,hm⟩:=Qd hm
 refine qe rfl (eC Qy8 rfl (Qxn N (Qg.rd f))) ?_
 rintro _ w7 ⟨i,j,k,l,m,n,rfl,c,g,d,h,E,G7⟩
 have ah:=G7.size
 have Y:=c.lth
 have Z:=d.lth
 refine qn 2 rfl ?_
 have O:=((p.gr G5).gr G7)
 refine qe rfl (Xf Jr rfl rfl (Qy.cs_ones _ _ _ (Qg.oneB c) (Qg.oneB d)) O rfl rfl) ?_
 rintro _ w8 ⟨P,M8⟩
 have ai:=M8.size
 refine qm rfl<|Qa<|Qq ?_
 have Q:=(c.md M8 (Qr g))
 have R:=(d.md M8 (Qr h))
 have S:=(((((Gr.refl w).trans Y2).trans G5).trans G7).md M8)
 cases hm
 exact⟨_,_,rfl,Za rfl (Zf Jr rfl P rfl) (Qn rfl),i,j,k,l,m,n,rfl,Q,⟨(Xm (A:=(fun x=>w.heap.size≤x)) g)⟩,R,⟨(Xm (A:=(fun x=>w.heap.size≤x)) h)⟩,⟨(Qb E.o)⟩,S⟩
theorem Qzu {p0 p1 p2 p3 vp3 zp3 gp3 op3 r}(hm:Gp p0 p1 p2 p3=some r){w:World}(an:Rd w zp3 gp3 op3 1 vp3 (p3.map ic)):
 Calls Tryz.prog 36 [kv p0,.agg (Qj.cs p1).toArray,.int .i64 p2,vp3].toArray w fun e w'=>∃ v,e=.returned v∧(∃ ur0_0 zr0_0 gr0_0 ur0_2 zr0_2 gr0_2,v=.tuple [.agg (Qy.cs r.1 ur0_0 ur0_2).toArray,.int .i64 r.2].toArray∧Qg w' zr0_0 gr0_0 139 18 ur0_0 (r.1.Items.map Zr.cs)∧Xd (zr0_0=0∨w.heap.size≤gr0_0)∧Qg w' zr0_2 gr0_2 60 2 ur0_2 (r.1.Points.map Xq.cs)∧Xd (zr0_2=0∨w.heap.size≤gr0_2)∧Xd (zr0_2=0∨zr0_0=0∨gr0_2≠gr0_0)∧Gr w w'):=by
 have t:=an.lth
 unfold Gp at hm
 refine Xi 38 Tryz.func36 rfl rfl rfl<|qs 4 rfl<|qe rfl (Xo (cs:=kb p0) rfl rfl) ?_
 rintro _ w1 ⟨b1,rfl,ce,ao,G1⟩
 have z2:=G1.size
 have cE:=ao.lt
 refine qe rfl (Xo (cs:=Qj.cs p1) rfl rfl) ?_
 rintro _ w2 ⟨b2,rfl,cf,aD,G2⟩
 have z4:=G2.size
 have cF:=aD.lt
 refine qe rfl (Xg (cs:=Qy.cs (Qy.mk [] 0#64 [] k0 k0) (.slice none 0 0) (.slice none 0 0)) Lf rfl) ?_
 rintro _ w3 ⟨b3,rfl,cg,H,G3⟩
 have z6:=G3.size
 have cG:=H.lt
 refine qm rfl<|qd 8 rfl ?_
 have B8:=(aD.gr G3)
 refine qv rfl (Xa Zq rfl B8 rfl)<|Cj 33 Tryz.func35 rfl rfl rfl Qjw rfl rfl rfl rfl rfl<|qs 3 rfl<|qe rfl (Xo (cs:=Qj.cs p1) rfl rfl) ?_
 rintro _ w4 ⟨b4,rfl,ch,ap,G4⟩
 have z9:=G4.size
 have ci:=ap.lt
 refine qe rfl (Xg (cs:=[.nilFunc,.nilFunc,.nilFunc,.nilFunc]) Wl rfl) ?_
 rintro _ w5 ⟨b5,rfl,cj,ac,G5⟩
 have cH:=G5.size
 have ck:=ac.lt
 refine qm rfl<|qd 3 rfl<|qv rfl (Zk (cs:=[.func (.func 59) #[] #[],.func (.func 60) #[] #[],.func (.func 61) #[] #[],.func (.func 62) #[] #[]]) Gi rfl rfl)<|qe rfl (Xg (cs:=[.nilFunc,.nilFunc,.nilFunc,.nilFunc]) Wl rfl) ?_
 rintro _ w6 ⟨b6,rfl,cl,aE,G6⟩
 have cI:=G6.size
 have cm:=aE.lt
 refine qe rfl (Xf Zo rfl rfl rfl aE rfl rfl) ?_
 rintro _ w7 ⟨aq,M7⟩
 have cJ:=M7.size
 refine qd 8 rfl<|qv rfl (Zk (cs:=[.nilFunc,.nilFunc,.nilFunc,.nilFunc]) Gi rfl rfl)<|qv rfl (Vk (vs:=[.func (.func 59) #[] #[],.func (.func 60) #[] #[],.func (.func 61) #[] #[],.func (.func 62) #[] #[]]) Zo rfl aq rfl rfl)<|qv rfl (Vk (vs:=[.func (.func 59) #[] #[],.func (.func 60) #[] #[],.func (.func 61) #[] #[],.func (.func 62) #[] #[]]) Zo rfl aq rfl rfl)<|qv rfl (Vk (vs:=[.func (.func 59) #[] #[],.func (.func 60) #[] #[],.func (.func 61) #[] #[],.func (.func 62) #[] #[]]) Zo rfl aq rfl rfl) ?_
 refine qv rfl (Zk (cs:=[.func (.func 30) #[] #[],.func (.func 63) #[] #[],.func (.func 64) #[] #[],.func (.func 65) #[] #[]]) Gi rfl rfl)<|qv rfl (Qii (cs:=[.nilFunc,.nilFunc,.nilFunc,.nilFunc,.func (.func 59) #[] #[],.func (.func 60) #[] #[],.func (.func 61) #[] #[],.func (.func 62) #[] #[],.func (.func 59) #[] #[],.func (.func 60) #[] #[],.func (.func 61) #[] #[],.func (.func 62) #[] #[],.func (.func 59) #[] #[],.func (.func 60) #[] #[],.func (.func 61) #[] #[],.func (.func 62) #[] #[],.func (.func 30) #[] #[],.func (.func 63) #[] #[],.func (.func 64) #[] #[],.func (.func 65) #[] #[]]) Qj2 rfl rfl)<|qe rfl (Xg (cs:=[.nilFunc,.nilFunc,.nilFunc,.nilFunc,.nilFunc,.nilFunc,.nilFunc,.nilFunc,.nilFunc,.nilFunc,.nilFunc,.nilFunc,.nilFunc,.nilFunc,.nilFunc,.nilFunc,.nilFunc,.nilFunc,.nilFunc,.nilFunc]) Qiu rfl) ?_
 rintro _ w8 ⟨b8,rfl,cn,aF,G8⟩
 have cK:=G8.size
 have co:=aF.lt
 refine qe rfl (Xf Qiy rfl rfl rfl aF rfl rfl) ?_
 rintro _ w9 ⟨aG,M9⟩
 have cL:=M9.size
 refine Qa<|Qe ?_
 have Y1:=Gr.trans (Gr.trans (Gr.trans (Gr.trans (Gr.trans G1 G2) G3) G4) G5) G6
 have I:=(((((Gr.refl w).trans Y1).md M7).trans G8).md M9)
 refine qj (β:=Bool) (rg 14 9) (fun a1=>[(22,.bool a1)]) (fun a1 wr=>(Bh p0 p1 p2 p3 a1=some r)∧Kz [] w9 wr) ?_ ?_
 · refine qg 9 rfl<|qv rfl (Qh Ye rfl) ?_
   have Y2:=Gr.trans G5 G6
   have ah:=((((ap.gr Y2).md M7).gr G8).md M9)
   refine qv rfl (Qi (v:=bv p1.Kind) Zb rfl ah rfl)<|qv rfl (Qbp (p:=p1.Kind) (q:=1#8) rfl rfl)<|Ji hm rfl (Qt rfl) (fun c8 hm=>?_) (fun c8 hm=>?_)
   · refine qn 5 rfl<|Qk ?_
     exact⟨rfl,true,Ql,hm,Xe⟩
   refine qv rfl (Qh Ye rfl)<|qv rfl (Qi (v:=bv p1.Kind) Zb rfl ah rfl)<|qv rfl (Qne Gm rfl)<|qv rfl (Wk (a:=Qs p1.Kind) (b:=5) rfl rfl)<|qm rfl<|Qk ?_
   exact⟨rfl,(decide ((5:Int)≤Qs p1.Kind)),Ql,hm,Xe⟩
 clear hm;rintro a1 cM ⟨hm,c⟩
 have cN:=c.size
 unfold Bh at hm
 refine Jo hm rfl (fun c1 hm=>?_) (fun c1 hm=>?_)
 · refine qs 3 rfl<|qv rfl (Zk (cs:=[.nilFunc,.nilFunc,.nilFunc,.nilFunc]) Gi rfl rfl) ?_
   have a7:=(((((ac.gr G6).md M7).gr G8).md M9).kz c)
   refine qe rfl (Xf Zo rfl rfl rfl a7 rfl rfl) ?_
   rintro _ cO ⟨aH,ar⟩
   have cP:=ar.size
   refine qm rfl<|qb<|⟨_,_,rfl,Za rfl (Zf Zo rfl aH rfl) (Qn rfl),?_⟩
   refine qn 3 rfl<|qe rfl (Xg (cs:=[.nilFunc,.nilFunc,.nilFunc,.nilFunc]) Wl rfl) ?_
   rintro _ cQ ⟨cR,rfl,a8,ai,au⟩
   have cS:=au.size
   have cp:=ai.lt
   refine qe rfl (Xf Zo rfl rfl rfl ai rfl rfl) ?_
   rintro _ cT ⟨cq,av⟩
   have cU:=av.size
   refine qm rfl<|Qa<|Qe<|qs 2 rfl<|qm rfl<|qv rfl (Kg (a:=2) (b:=0) rfl rfl) ?_
   refine Qa<|Nb rfl<|qs 4 rfl<|qv rfl (Zk (cs:=Qy.cs (Qy.mk [] 0#64 [] k0 k0) (.slice none 0 0) (.slice none 0 0)) Db rfl (by kernel_rfl))<|qm rfl ?_
   have Y3:=Gr.trans (Gr.trans G4 G5) G6
   have a9:=((((((((H.gr Y3).md M7).gr G8).md M9).kz c).md ar).gr au).md av)
   refine qe rfl (Xf Jr rfl rfl (Qy.cs_ones _ _ _ rfl rfl) a9 rfl rfl) ?_
   rintro _ cV ⟨aI,aJ⟩
   have cW:=aJ.size
   refine qm rfl<|qb ?_
   have ba:=(((((I.kz c).md ar).trans au).md av).md aJ)
   cases hm
   exact⟨_,_,rfl,Za rfl (Zf Jr rfl aI rfl) (Qn rfl),(.slice none 0 0),0,0,(.slice none 0 0),0,0,rfl,(Zi _ 0 139 18),⟨.inl rfl⟩,(Zi _ 0 60 2),⟨.inl rfl⟩,⟨(.inl rfl)⟩,ba⟩
 refine qu<|qs 6 rfl<|qv rfl (Qh Ye rfl) ?_
 have Y4:=Gr.trans G5 G6
 have aw:=(((((ap.gr Y4).md M7).gr G8).md M9).kz c)
 refine qv rfl (Qi (v:=bv p1.Kind) Zb rfl aw rfl) ?_
 by_cases c2:(Qs p1.Kind=1∨Qs p1.Kind=2∨Qs p1.Kind=3)
 · replace hm:=Hg c2 hm
   refine qv rfl (Qbn Tryz.underlying131 (Zo).siz rfl rfl (by omega)) ?_
   have bb:=(aG.kz c)
   refine qv rfl (Vk (vs:=[.func (.func 59) #[] #[],.func (.func 60) #[] #[],.func (.func 61) #[] #[],.func (.func 62) #[] #[]]) Zo rfl bb (by rcases c2 with h|h|h<;>rw[h]<;>rfl) rfl)<|qe rfl (Xg (cs:=[.nilFunc,.nilFunc,.nilFunc,.nilFunc]) Wl rfl) ?_
   rintro _ cX ⟨cY,rfl,bc,aj,j⟩
   have cZ:=j.size
   have cr:=aj.lt
   refine qe rfl (Xf Zo rfl rfl rfl aj rfl rfl) ?_
   rintro _ c0 ⟨aK,k⟩
   have c9:=k.size
   refine Qa<|Qe<|dw [([b5])] [] (.leaf [(0,10),(1,10),(2,10),(3,10),(4,0),(5,0),(6,10)]) ?_
   intro bd ax ct
   refine Zz ?_
   have aL:=(aK.gr ax)
   refine dh 0 rfl rfl (fun w hS=>Vk (vs:=[.func (.func 59) #[] #[],.func (.func 60) #[] #[],.func (.func 61) #[] #[],.func (.func 62) #[] #[]]) Zo rfl (Bx.kp aL hS) rfl rfl)<|dh 0 rfl rfl (fun w hS=>Qh Qaj rfl)<|dh 0 rfl rfl (fun w hS=>Qi (v:=.func (.func 59) #[] #[]) El rfl (Bx.kp aL hS) rfl) ?_
   have bf:=(((aw.gr j).md k).gr ax)
   refine dh 0 rfl rfl (fun w hS=>Xa Zq rfl (Bx.kp bf hS) rfl) ?_
   obtain⟨x2,bg,hm⟩:=Qd hm
   refine qz [] rfl (Yu Qa4 rfl rfl (Oc bg)) ⟨fun _=>Qf,trivial⟩ ?_
   rintro _ da ⟨rfl,ad⟩
   have db:=ad.size
   refine kG ad ?_
   have Y5:=Gr.trans ax ad
   have bh:=((((((((ac.gr G6).md M7).gr G8).md M9).kz c).gr j).md k).gr Y5)
   refine qz [(1,b5)] rfl (Xf Zo rfl rfl rfl bh rfl rfl) ⟨fun _=>Qf,trivial⟩ ?_
   rintro _ dc ⟨aM,l⟩
   have de:=l.size
   refine kM l ?_
   have bi:=(((Kp.refl ([b5]) bd).gr ad).md l)
   refine dn 0 rfl rfl bi<|Qa<|Qq<|⟨_,_,rfl,Za rfl (Zf Zo rfl aM rfl) (Qn rfl),?_⟩
   refine qn 3 rfl<|qe rfl (Xg (cs:=[.nilFunc,.nilFunc,.nilFunc,.nilFunc]) Wl rfl) ?_
   rintro _ df ⟨dg,rfl,bj,ak,u⟩
   have di:=u.size
   have cu:=ak.lt
   refine qe rfl (Xf Zo rfl rfl rfl ak rfl rfl) ?_
   rintro _ dj ⟨aN,y⟩
   have dk:=y.size
   refine qm rfl<|Qa<|Qe<|qs 2 rfl<|qm rfl<|qv rfl (Kg (a:=x2) (b:=0) rfl rfl) ?_
   refine Qa<|Zv hm rfl (fun c3 hm=>?_) (fun c3 hm=>?_)
   · refine qs 4 rfl<|qv rfl (Zk (cs:=Qy.cs (Qy.mk [] 0#64 [] k0 k0) (.slice none 0 0) (.slice none 0 0)) Db rfl (by kernel_rfl))<|qm rfl ?_
     have Y6:=Gr.trans G4 Y4
     have bk:=(((((((((((H.gr Y6).md M7).gr G8).md M9).kz c).gr j).md k).gr Y5).md l).gr u).md y)
     refine qe rfl (Xf Jr rfl rfl (Qy.cs_ones _ _ _ rfl rfl) bk rfl rfl) ?_
     rintro _ dl ⟨aO,aP⟩
     have dp:=aP.size
     refine qm rfl<|qb ?_
     have bl:=((((((((I.kz c).trans j).md k).trans Y5).md l).trans u).md y).md aP)
     cases hm
     exact⟨_,_,rfl,Za rfl (Zf Jr rfl aO rfl) (Qn rfl),(.slice none 0 0),0,0,(.slice none 0 0),0,0,rfl,(Zi _ 0 139 18),⟨.inl rfl⟩,(Zi _ 0 60 2),⟨.inl rfl⟩,⟨(.inl rfl)⟩,bl⟩
   refine qu<|Qe<|qs 3 rfl<|qm rfl ?_
   obtain⟨x3,bm,hm⟩:=Qd hm
   refine qe rfl (eC Qjz rfl (Qk7 bm)) ?_
   rintro _ dq ⟨rfl,ae⟩
   have dr:=ae.size
   refine qv rfl (Kd rfl)<|Qa<|Jo hm rfl (fun c4 hm=>?_) (fun c4 hm=>?_)
   · refine qs 3 rfl<|qv rfl (Zk (cs:=Qy.cs (Qy.mk [] 0#64 [] k0 k0) (.slice none 0 0) (.slice none 0 0)) Db rfl (by kernel_rfl)) ?_
     have Y7:=Gr.trans G4 Y4
     have bo:=((((((((((((H.gr Y7).md M7).gr G8).md M9).kz c).gr j).md k).gr Y5).md l).gr u).md y).gr ae)
     refine qe rfl (Xf Jr rfl rfl (Qy.cs_ones _ _ _ rfl rfl) bo rfl rfl) ?_
     rintro _ ds ⟨aQ,aR⟩
     have dt:=aR.size
     refine qm rfl<|qb ?_
     have bp:=(((((((((I.kz c).trans j).md k).trans Y5).md l).trans u).md y).trans ae).md aR)
     cases hm
     exact⟨_,_,rfl,Za rfl (Zf Jr rfl aQ rfl) (Qn rfl),(.slice none 0 0),0,0,(.slice none 0 0),0,0,rfl,(Zi _ 0 139 18),⟨.inl rfl⟩,(Zi _ 0 60 2),⟨.inl rfl⟩,⟨(.inl rfl)⟩,bp⟩
   refine qu<|Qe<|dw [([b3])] [] (.leaf [(0,10),(1,10),(2,10),(3,10),(4,10),(5,10),(6,10),(8,10),(9,10),(7,0),(10,0),(11,10),(12,10),(13,0),(14,10)]) ?_
   intro bq br cv
   refine Zz<|dh 0 rfl rfl (fun w hS=>Qh Qqz rfl) ?_
   have Y8:=Gr.trans ae br
   have bs:=(aN.gr Y8)
   refine dh 0 rfl rfl (fun w hS=>Qi (v:=.func (.func 62) #[] #[]) Ql8 rfl (Bx.kp bs hS) rfl) ?_
   have Y9:=Gr.trans (Gr.trans (Gr.trans G2 G3) G4) Y4
   have aS:=((((((((((((ao.gr Y9).md M7).gr G8).md M9).kz c).gr j).md k).gr Y5).md l).gr u).md y).gr Y8)
   refine dh 0 rfl rfl (fun w hS=>Xa Xk rfl (Bx.kp aS hS) rfl) ?_
   have aT:=Gr.trans G4 Y4
   have bu:=((((((((((((B8.gr aT).md M7).gr G8).md M9).kz c).gr j).md k).gr Y5).md l).gr u).md y).gr Y8)
   refine dh 0 rfl rfl (fun w hS=>Xa Zq rfl (Bx.kp bu hS) rfl)<|dm 0 rfl rfl<|dh 0 rfl rfl (fun w hS=>Xa Xk rfl (Bx.kp aS hS) rfl)<|dm 0 rfl rfl<|dm 0 rfl rfl<|dh 0 rfl rfl (fun w hS=>Ww Wu rfl) ?_
   obtain⟨x4,bw,hm⟩:=Qd hm
   refine qz [] rfl (eC Qjx rfl (Qk5 bw)) ⟨fun _=>Qf,trivial⟩ ?_
   rintro _ du ⟨rfl,J⟩
   have dv:=J.size
   refine kG J ?_
   have bx:=(((((((((((((an.gr Y1).md M7 (Qw t)).gr G8).md M9 (Qw t)).kz c).gr j).md k (Qw t)).gr Y5).md l (Qw t)).gr u).md y (Qw t)).gr Y8).gr J)
   obtain⟨x5,bz,hm⟩:=Qd hm
   refine qz [] rfl (Yu Qz9 rfl rfl (Qzw bz bx)) ⟨fun _=>Qf,trivial⟩ ?_
   rintro _ dy ⟨K,L,M,N,O,P,rfl,d,D,f,E,ay,aa⟩
   have dz:=aa.size
   have cw:=d.lth
   have cx:=f.lth
   refine kG aa ?_
   have az:=(((Kp.refl ([b3]) bq).gr J).gr aa)
   refine dn 0 rfl rfl az<|dn 0 rfl rfl az ?_
   have bA:=((((((((((((((H.gr aT).md M7).gr G8).md M9).kz c).gr j).md k).gr Y5).md l).gr u).md y).gr Y8).gr J).gr aa)
   refine qz [(1,b3)] rfl (Xf Jr rfl rfl (Qy.cs_ones _ _ _ (Qg.oneB d) (Qg.oneB f)) bA rfl rfl) ⟨fun _=>Qf,trivial⟩ ?_
   rintro _ dA ⟨aU,Q⟩
   have dB:=Q.size
   refine kM Q ?_
   have bB:=(az.md Q)
   refine dn 0 rfl rfl bB<|Qa<|Qq ?_
   have bC:=(d.md Q (Qr D))
   have bD:=(f.md Q (Qr E))
   have bE:=(((((((((((I.kz c).trans j).md k).trans Y5).md l).trans u).md y).trans Y8).trans J).trans aa).md Q)
   cases hm
   exact⟨_,_,rfl,Za rfl (Zf Jr rfl aU rfl) (Qn rfl),K,L,M,N,O,P,rfl,bC,⟨(Xm (A:=(fun x=>w.heap.size≤x)) D)⟩,bD,⟨(Xm (A:=(fun x=>w.heap.size≤x)) E)⟩,⟨(Qb ay.o)⟩,bE⟩
 replace hm:=Hf c2 hm
 by_cases c5:(Qs p1.Kind=4)
 · replace hm:=Hg c5 hm
   refine qv rfl (Qbn Tryz.underlying131 (Zo).siz rfl rfl (by omega)) ?_
   have bF:=(aG.kz c)
   refine qv rfl (Vk (vs:=[.func (.func 30) #[] #[],.func (.func 63) #[] #[],.func (.func 64) #[] #[],.func (.func 65) #[] #[]]) Zo rfl bF (by rw[c5];rfl) rfl)<|qe rfl (Xg (cs:=[.nilFunc,.nilFunc,.nilFunc,.nilFunc]) Wl rfl) ?_
   rintro _ dC ⟨dD,rfl,bG,al,m⟩
   have dE:=m.size
   have cy:=al.lt
   refine qe rfl (Xf Zo rfl rfl rfl al rfl rfl) ?_
   rintro _ dF ⟨aV,n⟩
   have dG:=n.size
   refine Qa<|Qe<|dw [([b5])] [] (.leaf [(0,10),(1,10),(2,10),(3,10),(4,0),(5,0),(6,10)]) ?_
   intro bH aA cz
   refine Zz ?_
   have aW:=(aV.gr aA)
   refine dh 0 rfl rfl (fun w hS=>Vk (vs:=[.func (.func 30) #[] #[],.func (.func 63) #[] #[],.func (.func 64) #[] #[],.func (.func 65) #[] #[]]) Zo rfl (Bx.kp aW hS) rfl rfl)<|dh 0 rfl rfl (fun w hS=>Qh Qaj rfl)<|dh 0 rfl rfl (fun w hS=>Qi (v:=.func (.func 30) #[] #[]) El rfl (Bx.kp aW hS) rfl) ?_
   have bI:=(((aw.gr m).md n).gr aA)
   refine dh 0 rfl rfl (fun w hS=>Xa Zq rfl (Bx.kp bI hS) rfl) ?_
   obtain⟨x6,bJ,hm⟩:=Qd hm
   refine qz [] rfl (Yu Qf4 rfl rfl (Qhk bJ)) ⟨fun _=>Qf,trivial⟩ ?_
   rintro _ dH ⟨rfl,af⟩
   have dI:=af.size
   refine kG af ?_
   have z:=Gr.trans aA af
   have bK:=((((((((ac.gr G6).md M7).gr G8).md M9).kz c).gr m).md n).gr z)
   refine qz [(1,b5)] rfl (Xf Zo rfl rfl rfl bK rfl rfl) ⟨fun _=>Qf,trivial⟩ ?_
   rintro _ dJ ⟨aX,s⟩
   have dK:=s.size
   refine kM s ?_
   have bL:=(((Kp.refl ([b5]) bH).gr af).md s)
   refine dn 0 rfl rfl bL<|Qa<|Qq<|⟨_,_,rfl,Za rfl (Zf Zo rfl aX rfl) (Qn rfl),?_⟩
   refine qn 3 rfl<|qe rfl (Xg (cs:=[.nilFunc,.nilFunc,.nilFunc,.nilFunc]) Wl rfl) ?_
   rintro _ dL ⟨dM,rfl,bM,am,B⟩
   have dN:=B.size
   have cA:=am.lt
   refine qe rfl (Xf Zo rfl rfl rfl am rfl rfl) ?_
   rintro _ dO ⟨aY,C⟩
   have dP:=C.size
   refine qm rfl<|Qa<|Qe<|qs 2 rfl<|qm rfl<|qv rfl (Kg (a:=x6) (b:=0) rfl rfl) ?_
   refine Qa<|Zv hm rfl (fun c6 hm=>?_) (fun c6 hm=>?_)
   · refine qs 4 rfl<|qv rfl (Zk (cs:=Qy.cs (Qy.mk [] 0#64 [] k0 k0) (.slice none 0 0) (.slice none 0 0)) Db rfl (by kernel_rfl))<|qm rfl ?_
     have bN:=Gr.trans G4 Y4
     have bO:=(((((((((((H.gr bN).md M7).gr G8).md M9).kz c).gr m).md n).gr z).md s).gr B).md C)
     refine qe rfl (Xf Jr rfl rfl (Qy.cs_ones _ _ _ rfl rfl) bO rfl rfl) ?_
     rintro _ dQ ⟨aZ,a0⟩
     have dR:=a0.size
     refine qm rfl<|qb ?_
     have bP:=((((((((I.kz c).trans m).md n).trans z).md s).trans B).md C).md a0)
     cases hm
     exact⟨_,_,rfl,Za rfl (Zf Jr rfl aZ rfl) (Qn rfl),(.slice none 0 0),0,0,(.slice none 0 0),0,0,rfl,(Zi _ 0 139 18),⟨.inl rfl⟩,(Zi _ 0 60 2),⟨.inl rfl⟩,⟨(.inl rfl)⟩,bP⟩
   refine qu<|Qe<|qs 3 rfl<|qm rfl ?_
   obtain⟨x7,bQ,hm⟩:=Qd hm
   refine qe rfl (eC Qjz rfl (Qk7 bQ)) ?_
   rintro _ dS ⟨rfl,ag⟩
   have dT:=ag.size
   refine qv rfl (Kd rfl)<|Qa<|Jo hm rfl (fun c7 hm=>?_) (fun c7 hm=>?_)
   · refine qs 3 rfl<|qv rfl (Zk (cs:=Qy.cs (Qy.mk [] 0#64 [] k0 k0) (.slice none 0 0) (.slice none 0 0)) Db rfl (by kernel_rfl)) ?_
     have bR:=Gr.trans G4 Y4
     have bS:=((((((((((((H.gr bR).md M7).gr G8).md M9).kz c).gr m).md n).gr z).md s).gr B).md C).gr ag)
     refine qe rfl (Xf Jr rfl rfl (Qy.cs_ones _ _ _ rfl rfl) bS rfl rfl) ?_
     rintro _ dU ⟨a2,a3⟩
     have dV:=a3.size
     refine qm rfl<|qb ?_
     have bT:=(((((((((I.kz c).trans m).md n).trans z).md s).trans B).md C).trans ag).md a3)
     cases hm
     exact⟨_,_,rfl,Za rfl (Zf Jr rfl a2 rfl) (Qn rfl),(.slice none 0 0),0,0,(.slice none 0 0),0,0,rfl,(Zi _ 0 139 18),⟨.inl rfl⟩,(Zi _ 0 60 2),⟨.inl rfl⟩,⟨(.inl rfl)⟩,bT⟩
   refine qu<|Qe<|dw [([b3])] [] (.leaf [(0,10),(1,10),(2,10),(3,10),(4,10),(5,10),(6,10),(8,10),(9,10),(7,0),(10,0),(11,10),(12,10),(13,0),(14,10)]) ?_
   intro bU bV cB
   refine Zz<|dh 0 rfl rfl (fun w hS=>Qh Qqz rfl) ?_
   have R:=Gr.trans ag bV
   have bW:=(aY.gr R)
   refine dh 0 rfl rfl (fun w hS=>Qi (v:=.func (.func 65) #[] #[]) Ql8 rfl (Bx.kp bW hS) rfl) ?_
   have bX:=Gr.trans (Gr.trans (Gr.trans G2 G3) G4) Y4
   have a4:=((((((((((((ao.gr bX).md M7).gr G8).md M9).kz c).gr m).md n).gr z).md s).gr B).md C).gr R)
   refine dh 0 rfl rfl (fun w hS=>Xa Xk rfl (Bx.kp a4 hS) rfl) ?_
   have a5:=Gr.trans G4 Y4
   have bY:=((((((((((((B8.gr a5).md M7).gr G8).md M9).kz c).gr m).md n).gr z).md s).gr B).md C).gr R)
   refine dh 0 rfl rfl (fun w hS=>Xa Zq rfl (Bx.kp bY hS) rfl)<|dm 0 rfl rfl<|dh 0 rfl rfl (fun w hS=>Xa Xk rfl (Bx.kp a4 hS) rfl)<|dm 0 rfl rfl<|dm 0 rfl rfl<|dh 0 rfl rfl (fun w hS=>Ww Wu rfl) ?_
   obtain⟨x8,bZ,hm⟩:=Qd hm
   refine qz [] rfl (eC Qjx rfl (Qk5 bZ)) ⟨fun _=>Qf,trivial⟩ ?_
   rintro _ dW ⟨rfl,S⟩
   have dX:=S.size
   refine kG S ?_
   have b0:=(((((((((((((an.gr Y1).md M7 (Qw t)).gr G8).md M9 (Qw t)).kz c).gr m).md n (Qw t)).gr z).md s (Qw t)).gr B).md C (Qw t)).gr R).gr S)
   obtain⟨x9,b7,hm⟩:=Qd hm
   refine qz [] rfl (Yu Qzb rfl rfl (Xed b7 b0)) ⟨fun _=>Qf,trivial⟩ ?_
   rintro _ dY ⟨T,U,V,W,X,Y,rfl,g,F,i,G,aB,ab⟩
   have dZ:=ab.size
   have cC:=g.lth
   have cD:=i.lth
   refine kG ab ?_
   have aC:=(((Kp.refl ([b3]) bU).gr S).gr ab)
   refine dn 0 rfl rfl aC<|dn 0 rfl rfl aC ?_
   have b9:=((((((((((((((H.gr a5).md M7).gr G8).md M9).kz c).gr m).md n).gr z).md s).gr B).md C).gr R).gr S).gr ab)
   refine qz [(1,b3)] rfl (Xf Jr rfl rfl (Qy.cs_ones _ _ _ (Qg.oneB g) (Qg.oneB i)) b9 rfl rfl) ⟨fun _=>Qf,trivial⟩ ?_
   rintro _ d0 ⟨a6,Z⟩
   have d1:=Z.size
   refine kM Z ?_
   have ca:=(aC.md Z)
   refine dn 0 rfl rfl ca<|Qa<|Qq ?_
   have cb:=(g.md Z (Qr F))
   have cc:=(i.md Z (Qr G))
   have cd:=(((((((((((I.kz c).trans m).md n).trans z).md s).trans B).md C).trans R).trans S).trans ab).md Z)
   cases hm
   exact⟨_,_,rfl,Za rfl (Zf Jr rfl a6 rfl) (Qn rfl),T,U,V,W,X,Y,rfl,cb,⟨(Xm (A:=(fun x=>w.heap.size≤x)) F)⟩,cc,⟨(Xm (A:=(fun x=>w.heap.size≤x)) G)⟩,⟨(Qb aB.o)⟩,cd⟩
 replace hm:=Hf c5 hm
 cases hm
theorem Gq {p0 p1 p2 bp0 vp0_0 zp0_0 gp0_0 r}(hm:Di p0 p1 p2=some r){w:World}(hbp0:Bx w bp0 144 (Kh.cs p0 vp0_0))(h:Qg w zp0_0 gp0_0 5 1 vp0_0 (p0.out.map Jg))(j:Xd (zp0_0=0∨gp0_0≠bp0)):
 Calls Tryz.prog 71 [.pointer (some ⟨bp0,0,none⟩),wv p1,.int .i64 p2].toArray w fun e w'=>∃ v,e=.returned v∧(∃ ub0_0 zb0_0 gb0_0,v=.tuple #[]∧Qg w' zb0_0 gb0_0 5 1 ub0_0 (r.out.map Jg)∧Xd (zb0_0=0∨(gb0_0=gp0_0∧zp0_0≠0)∨w.heap.size≤gb0_0)∧Bx w' bp0 144 (Kh.cs r ub0_0)∧Kz [(zp0_0,gp0_0),(1,bp0)] w w'):=by
 have n:=h.lth
 have J:=hbp0.lt
 unfold Di at hm
 refine Xi 26 Tryz.func71 rfl rfl rfl<|qs 3 rfl<|qm rfl<|qv rfl (Vx (k:=.i64) (a:=p2) (b:=1) rfl rfl)<|qm rfl<|Qa ?_
 refine Xn<|Kf (α:=Nat × Int × List (BitVec 8) × Value × Nat × Nat) ([2]++rg 8 18) (fun⟨n1,a4,a5,vy6,zy6,gy6⟩=>[(2,.int .i64 a4)]) (fun⟨n1,a4,a5,vy6,zy6,gy6⟩ wr=>(Qv (Up p1) n1 (a4,a5)=some r)∧Qg wr zy6 gy6 5 1 vy6 (a5.map Jg)∧Xd (zy6=0∨(gy6=gp0_0∧zp0_0≠0)∨w.heap.size≤gy6)∧Bx wr bp0 144 (Kh.cs (Kh.mk a5) vy6)∧Kz [(1,bp0),(zp0_0,gp0_0)] w wr) (fun⟨n1,a4,a5,vy6,zy6,gy6⟩=>n1) ⟨Xb,Qc (p2-1),p0.out,vp0_0,zp0_0,gp0_0⟩ ?_ ?_ ?_
 · exact Ql
 · exact⟨hm,h,⟨Qf⟩,hbp0,Kz.refl _ _⟩
 clear hm;rintro⟨n1,a4,a5,vy6,zy6,gy6⟩ w1 ⟨hm,f,d,g,K1⟩
 have z3:=K1.size
 have K:=f.lth
 have L:=g.lt
 have hb:=Kl hm;clear hm;obtain⟨n1,rfl,hm⟩:=hb
 generalize p:Qv (Up p1) n1=H at hm
 unfold Up at hm
 try dsimp only at hm
 refine Qe<|qs 2 rfl<|qm rfl<|qv rfl (Wk (a:=a4) (b:=0) rfl rfl)<|Qa<|Kx hm rfl (fun c1 hm=>?_) (fun c1 hm=>?_)
 · refine Jl<|Xu<|Xu<|Jk ?_
   have z:=((Kz.refl [(zp0_0,gp0_0),(1,bp0)] w).kz K1 (Qb (Qf:zp0_0=0∨(gp0_0=gp0_0∧zp0_0≠0)∨w.heap.size≤gp0_0)))
   cases hm
   exact⟨_,_,rfl,Hj rfl,vy6,zy6,gy6,rfl,f,⟨(Qp (A:=(fun x=>(x=gp0_0∧zp0_0≠0)∨w.heap.size≤x)) d Qf)⟩,g,z⟩
 refine qu<|Qe<|Xn<|dw [([bp0]++zf zy6 gy6),([]++zf zy6 gy6)] [(14,[1])] (.leaf [(0,10),(1,10),(2,10),(3,10),(4,11),(5,10),(6,10),(7,10),(8,10),(9,10),(10,0),(11,0),(12,10),(13,10),(14,0)]) ?_
 intro w2 G2 M
 refine Zz<|dn 0 rfl rfl (Kp.refl ([bp0]++zf zy6 gy6) w2)<|dn 0 rfl rfl (Kp.refl ([bp0]++zf zy6 gy6) w2)<|qh 0 rfl rfl (Kp.refl ([bp0]++zf zy6 gy6) w2) (fun w hS=>Hy rfl rfl)<|qh 0 rfl rfl (Kp.refl ([bp0]++zf zy6 gy6) w2) (fun w hS=>Qh Qah rfl) ?_
 have B6:=(g.gr G2)
 refine qh 1 rfl rfl (Kp.refl ([]++zf zy6 gy6) w2) (fun w hS=>Qi (v:=vy6) Gx rfl (Bx.kp B6 hS (Qb (Qo (b:=bp0) d (Zc n.o j.o)))) rfl)<|dn 0 rfl rfl (Kp.refl ([bp0]++zf zy6 gy6) w2)<|dn 0 rfl rfl (Kp.refl ([bp0]++zf zy6 gy6) w2)<|qh 0 rfl rfl (Kp.refl ([bp0]++zf zy6 gy6) w2) (fun w hS=>Hw (k:=.i64) (a:=8) (b:=a4) rfl rfl) ?_
 obtain⟨nn7,hnn7,hm⟩:=Qd hm
 refine qh 0 rfl rfl (Kp.refl ([bp0]++zf zy6 gy6) w2) (fun w hS=>Qnl (c:=p1) (b:=(Qc (8*a4))) rfl rfl hnn7)<|qh 0 rfl rfl (Kp.refl ([bp0]++zf zy6 gy6) w2) (fun w hS=>Xh6 Gl rfl)<|qz [] rfl (Ha [(p1 >>> nn7).setWidth 8] Jg Qwu rfl rfl (Pc rfl) rfl rfl rfl) ⟨fun _=>Qf,fun _=>Qf,trivial⟩ ?_
 rintro N w3 ⟨O,I,q,G3⟩
 have z7:=G3.size
 have P:=q.lth
 refine kG G3 ?_
 have B9:=((f.gr G2).gr G3)
 obtain⟨l8,B,hm⟩:=Qd hm
 refine qz [(zy6,gy6)] rfl (Nk (l:=a5) (m:=[(p1 >>> nn7).setWidth 8]) (c:=Jg) Qc1 rfl rfl B9 (Qg.rd q) B (by decide)) ⟨fun _=>(Qb (Qf:zy6=0∨(gy6=gy6∧zy6≠0)∨w2.heap.size≤gy6)),fun _=>(Qb (Qf:zy6=0∨(gy6=gy6∧zy6≠0)∨w2.heap.size≤gy6)),trivial⟩ ?_
 rintro s w4 ⟨C,D,t,i,Q,u⟩
 have R:=i.size
 refine⟨Kz.ofKa i,?_⟩
 have y:=(((Kp.refl ([bp0]++zf zy6 gy6) w2).gr G3).ka i (Qb (Qf:zy6=0∨(gy6=gy6∧zy6≠0)∨w2.heap.size≤gy6)))
 refine qh 0 rfl rfl y (fun w hS=>Hy rfl rfl)<|qh 0 rfl rfl y (fun w hS=>Qh Qah rfl) ?_
 have E:=((B6.gr G3).ka i (Qb (Qo (b:=bp0) d (Zc n.o j.o))))
 refine qz [(1,bp0)] rfl (Zp (cs':=Kh.cs (Kh.mk l8) s) (Gx).siz rfl rfl (Qg.oneB t) E rfl rfl) ⟨fun _=>Qf,nofun,trivial⟩ ?_
 rintro _ w5 ⟨F,M5⟩
 have S:=M5.size
 refine kM M5<|Qk<|Xh<|Xl<|qg 3 rfl<|qm rfl<|qv rfl (Vx (k:=.i64) (a:=a4) (b:=1) rfl rfl) ?_
 refine qm rfl<|Qk ?_
 have K_14:Kz [(1,bp0),(zp0_0,gp0_0)] w w5:=((((K1.gr G2).gr G3).ka i (Qb (Qp (A:=(fun x=>(x=gp0_0∧zp0_0≠0)∨w.heap.size≤x)) d Qf))).md M5)
 have G:=(t.md M5 (Nt u (Qo d (Zc n.o j.o))))
 subst p
 exact⟨rfl,⟨n1,Qc (a4-1),l8,s,C,D⟩,Ql,⟨hm,G,⟨(Tq (A:=(fun x=>(x=gp0_0∧zp0_0≠0)∨w.heap.size≤x)) u (Qp (A:=(fun x=>(x=gp0_0∧zp0_0≠0)∨w.heap.size≤x)) d Qf))⟩,F,K_14⟩,Nat.lt_succ_self _⟩
theorem Qk8 {p0 p1 bp0 vp0_0 zp0_0 gp0_0 r}(hm:Uo p0 p1=some r){w:World}(hbp0:Bx w bp0 144 (Kh.cs p0 vp0_0))(a:Qg w zp0_0 gp0_0 5 1 vp0_0 (p0.out.map Jg))(d:Xd (zp0_0=0∨gp0_0≠bp0)):
 Calls Tryz.prog 72 [.pointer (some ⟨bp0,0,none⟩),kv p1].toArray w fun e w'=>∃ v,e=.returned v∧(∃ ub0_0 zb0_0 gb0_0,v=.tuple #[]∧Qg w' zb0_0 gb0_0 5 1 ub0_0 (r.out.map Jg)∧Xd (zb0_0=0∨(gb0_0=gp0_0∧zp0_0≠0)∨w.heap.size≤gb0_0)∧Bx w' bp0 144 (Kh.cs r ub0_0)∧Kz [(zp0_0,gp0_0),(1,bp0)] w w'):=by
 have f:=a.lth
 have F:=hbp0.lt
 unfold Uo at hm
 refine Xi 13 Tryz.func72 rfl rfl rfl<|qs 1 rfl<|qe rfl (Xo (cs:=kb p1) rfl rfl) ?_
 rintro _ w1 ⟨b1,rfl,E,g,G1⟩
 have z3:=G1.size
 have G:=g.lt
 refine Qa<|dw [([bp0]++zf zp0_0 gp0_0),([]++zf zp0_0 gp0_0)] [(9,[1])] (.leaf [(0,10),(1,10),(2,10),(3,10),(4,11),(5,10),(6,0),(7,10),(8,10),(9,0)]) ?_
 intro w2 G2 H
 refine Zz<|dn 0 rfl rfl (Kp.refl ([bp0]++zf zp0_0 gp0_0) w2)<|dn 0 rfl rfl (Kp.refl ([bp0]++zf zp0_0 gp0_0) w2)<|qh 0 rfl rfl (Kp.refl ([bp0]++zf zp0_0 gp0_0) w2) (fun w hS=>Hy rfl rfl)<|qh 0 rfl rfl (Kp.refl ([bp0]++zf zp0_0 gp0_0) w2) (fun w hS=>Qh Qah rfl) ?_
 have B5:=((hbp0.gr G1).gr G2)
 refine qh 1 rfl rfl (Kp.refl ([]++zf zp0_0 gp0_0) w2) (fun w hS=>Qi (v:=vp0_0) Gx rfl (Bx.kp B5 hS (Qb ((Zc f.o d.o):zp0_0=0∨gp0_0≠bp0))) rfl) ?_
 have B6:=(g.gr G2)
 have i:=Qm8 (o:=0) (p:=p1) B6 rfl
 have I:=i.lth
 refine qh 0 rfl rfl (Kp.refl ([bp0]++zf zp0_0 gp0_0) w2) (fun w hS=>Qnm (n:=16) (l:=0) (h:=16) Tryz.underlying39 (Zb).siz rfl rfl rfl (by decide) (by decide) (by decide)) ?_
 have B9:=((a.gr G1).gr G2)
 obtain⟨l1,t,hm⟩:=Qd hm
 refine qz [(zp0_0,gp0_0)] rfl (Nk (l:=p0.out) (m:=Ze p1) (c:=Jg) Qc1 rfl rfl B9 i t (by decide)) ⟨fun _=>(Qb (Qf:zp0_0=0∨(gp0_0=gp0_0∧zp0_0≠0)∨w2.heap.size≤gp0_0)),fun _=>(Qb (Qf:zp0_0=0∨(gp0_0=gp0_0∧zp0_0≠0)∨w2.heap.size≤gp0_0)),trivial⟩ ?_
 rintro j w3 ⟨u,y,k,b,J,q⟩
 have K:=b.size
 refine⟨Kz.ofKa b,?_⟩
 have s:=((Kp.refl ([bp0]++zf zp0_0 gp0_0) w2).ka b (Qb (Qf:zp0_0=0∨(gp0_0=gp0_0∧zp0_0≠0)∨w2.heap.size≤gp0_0)))
 refine qh 0 rfl rfl s (fun w hS=>Hy rfl rfl)<|qh 0 rfl rfl s (fun w hS=>Qh Qah rfl) ?_
 have z:=(B5.ka b (Qb ((Zc f.o d.o):zp0_0=0∨gp0_0≠bp0)))
 refine qz [(1,bp0)] rfl (Zp (cs':=Kh.cs (Kh.mk l1) j) (Gx).siz rfl rfl (Qg.oneB k) z rfl rfl) ⟨fun _=>Qf,nofun,trivial⟩ ?_
 rintro _ w4 ⟨B,M4⟩
 have L:=M4.size
 refine kM M4<|Qk ?_
 have C:=(k.md M4 (Nt q (Zc f.o d.o)))
 have D:=(((((Kz.refl [(zp0_0,gp0_0),(1,bp0)] w).gr G1).gr G2).ka b (Qb (Qf:zp0_0=0∨(gp0_0=gp0_0∧zp0_0≠0)∨w.heap.size≤gp0_0))).md M4)
 cases hm
 exact⟨_,_,rfl,Hj rfl,j,u,y,rfl,C,⟨(Tq (A:=(fun x=>(x=gp0_0∧zp0_0≠0)∨w.heap.size≤x)) q Qf)⟩,B,D⟩
theorem Qff {p0 vp0_2 zp0_2 gp0_2 op0_2 vp0_4 zp0_4 gp0_4 op0_4 vp0_39 zp0_39 gp0_39 op0_39 r}(hm:Qa7 p0=some r){w:World}(aP:Rd w zp0_2 gp0_2 op0_2 18 vp0_2 (p0.Head.Items.map Zr.cs))(aQ:Rd w zp0_4 gp0_4 op0_4 2 vp0_4 (p0.Head.Points.map Xq.cs))(ai:Rd w zp0_39 gp0_39 op0_39 1 vp0_39 (p0.Data.map Jg)):
 Calls Tryz.prog 40 [.agg (Zl.cs p0 vp0_2 vp0_4 vp0_39).toArray].toArray w fun e w'=>∃ v,e=.returned v∧(∃ ur0_s zr0_s gr0_s,v=ur0_s∧Qg w' zr0_s gr0_s 5 1 ur0_s (r.map Jg)∧Xd (zr0_s=0∨w.heap.size≤gr0_s)∧Gr w w'):=by
 have H:=aP.lth
 have F:=aQ.lth
 have D:=ai.lth
 unfold Qa7 at hm
 refine Xi 120 Tryz.func40 rfl rfl rfl<|qs 2 rfl<|qe rfl (Xo (cs:=Zl.cs p0 vp0_2 vp0_4 vp0_39) rfl rfl) ?_
 rintro _ w1 ⟨b1,rfl,c7,bQ,G1⟩
 have z4:=G1.size
 have dB:=bQ.lt
 refine qm rfl<|qd 3 rfl<|qv rfl (Zk (cs:=Kh.cs (Kh.mk []) (.slice none 0 0)) Qwl rfl rfl)<|qe rfl (Xo (cs:=Kh.cs (Kh.mk []) (.slice none 0 0)) rfl rfl) ?_
 rintro _ w2 ⟨b2,rfl,c8,bR,G2⟩
 have z6:=G2.size
 have dC:=bR.lt
 refine qm rfl<|qd 5 rfl<|qm rfl<|qv rfl (Qh Qkf rfl) ?_
 have B8:=(bQ.gr G2)
 refine qv rfl (Qi (v:=bv p0.Kind) Zb rfl B8 rfl)<|qv rfl (Qik Bf rfl) ?_
 obtain⟨x1,cr,hm⟩:=Qd hm
 refine qe rfl (eC Gn rfl (Gq cr bR (Zi _ 0 5 1) ⟨Qf⟩)) ?_
 rintro _ w3 ⟨bS,J,K,rfl,S,d,aR,K3⟩
 have z9:=K3.size
 have c9:=S.lth
 refine Qa<|Qe<|qs 3 rfl<|qv rfl (Qh Qkf rfl) ?_
 have aS:=(B8.kz K3)
 refine qv rfl (Qi (v:=bv p0.Kind) Zb rfl aS rfl)<|qv rfl (Vt (p:=p0.Kind) (q:=2#8) rfl rfl)<|Qa<|Zv hm rfl (fun c1 hm=>?_) (fun c1 hm=>?_)
 · refine qs 5 rfl<|qm rfl<|qv rfl (Qh Qkg rfl)<|qv rfl (Qi (v:=bv p0.Low) Zb rfl aS rfl)<|qv rfl (Qik Bf rfl) ?_
   obtain⟨x2,ct,hm⟩:=Qd hm
   refine qe rfl (eC Gn rfl (Gq ct aR S ⟨(Qb (Qo (b:=b2) d (.inl rfl)))⟩)) ?_
   rintro _ w4 ⟨bT,aT,aU,rfl,aq,C,bo,K4⟩
   have dD:=K4.size
   have da:=aq.lth
   refine qd 4 rfl<|qm rfl<|qv rfl (Qh Qqw rfl) ?_
   have bU:=(aS.kz K4 (Qb (Qo (b:=b1) d (.inl rfl))))
   refine qv rfl (Qi (v:=wv p0.Number) Zw rfl bU rfl) ?_
   obtain⟨x3,cu,hm⟩:=Qd hm
   refine qe rfl (eC Gn rfl (Gq cu bo aq ⟨(Qb (Qo (b:=b2) C (Qo d (.inl rfl))))⟩)) ?_
   rintro _ w5 ⟨bV,aV,aW,rfl,ar,G,bp,K5⟩
   have dE:=K5.size
   have db:=ar.lth
   refine qd 6 rfl<|qm rfl<|qv rfl (Qh Qfp rfl) ?_
   have bW:=(bU.kz K5 (Qb (Qo (b:=b1) C (Qo d (.inl rfl)))))
   refine qv rfl (Qi (v:=vp0_39) Gx rfl bW rfl) ?_
   have Y1:=Gr.trans G1 G2
   have bX:=((((ai.gr Y1).kz K3 (Qb (Qw (b:=b2) D))).kz K4 (Zc ((Jh (Qp (A:=(fun x=>zp0_39=0∨x≠gp0_39)) d (.inl rfl) (fun x hx=>(Qb D.o)))):zp0_39=0∨J=0∨gp0_39≠K) (Qw (b:=b2) D))).kz K5 (Zc ((Jh (Qp (A:=(fun x=>zp0_39=0∨x≠gp0_39)) C (Qp (A:=(fun x=>zp0_39=0∨x≠gp0_39)) d (.inl rfl) (fun x hx=>(Qb D.o))) (fun x hx=>(Qb D.o)))):zp0_39=0∨aT=0∨gp0_39≠aU) (Qw (b:=b2) D)))
   refine qv rfl (Kq (l:=p0.Data) (c:=Jg) Tryz.underlying51 rfl bX)<|qv rfl (Ww Wu rfl) ?_
   obtain⟨x4,cv,hm⟩:=Qd hm
   refine qe rfl (eC Gn rfl (Gq cv bp ar ⟨(Qb (Qo (b:=b2) G (Qo C (Qo d (.inl rfl)))))⟩)) ?_
   rintro _ w6 ⟨aX,u,t,rfl,au,L,bq,K6⟩
   have dF:=K6.size
   have dc:=au.lth
   refine Qa<|Qe<|dw [([]++zf u t)] [] (.leaf [(0,10),(1,10),(2,10),(3,10),(4,10),(5,10),(6,0),(7,10)]) ?_
   intro w7 G7 dG
   refine Zz<|dn 0 rfl rfl (Kp.refl ([]++zf u t) w7)<|qh 0 rfl rfl (Kp.refl ([]++zf u t) w7) (fun w hS=>Hy rfl rfl)<|qh 0 rfl rfl (Kp.refl ([]++zf u t) w7) (fun w hS=>Qh Qah rfl) ?_
   have cw:=(bq.gr G7)
   refine qh 0 rfl rfl (Kp.refl ([]++zf u t) w7) (fun w hS=>Qi (v:=aX) Gx rfl (Bx.kp cw hS (Qb (Qo (b:=b2) L (Qo G (Qo C (Qo d (.inl rfl))))))) rfl)<|qh 0 rfl rfl (Kp.refl ([]++zf u t) w7) (fun w hS=>Qh Qfp rfl) ?_
   have cx:=((bW.kz K6 (Qb (Qo (b:=b1) G (Qo C (Qo d (.inl rfl)))))).gr G7)
   refine qh 0 rfl rfl (Kp.refl ([]++zf u t) w7) (fun w hS=>Qi (v:=vp0_39) Gx rfl (Bx.kp cx hS (Qb (Qo (b:=b1) L (Qo G (Qo C (Qo d (.inl rfl))))))) rfl) ?_
   have cy:=(au.gr G7)
   have cz:=((bX.kz K6 (Zc ((Jh (Qp (A:=(fun x=>zp0_39=0∨x≠gp0_39)) G (Qp (A:=(fun x=>zp0_39=0∨x≠gp0_39)) C (Qp (A:=(fun x=>zp0_39=0∨x≠gp0_39)) d (.inl rfl) (fun x hx=>(Qb D.o))) (fun x hx=>(Qb D.o))) (fun x hx=>(Qb D.o)))):zp0_39=0∨aV=0∨gp0_39≠aW) (Qw (b:=b2) D))).gr G7)
   obtain⟨l5,cA,hm⟩:=Qd hm
   refine qz [(u,t)] rfl (Nk (l:=x4.out) (m:=p0.Data) (c:=Jg) Qc1 rfl rfl cy cz cA (by decide)) ⟨fun _=>(Qb (Qf:u=0∨(t=t∧u≠0)∨w7.heap.size≤t)),trivial⟩ ?_
   rintro cB w8 ⟨cC,cD,cE,a0,dH,cF⟩
   have dI:=a0.size
   refine⟨Kz.ofKa a0,?_⟩
   have cG:=((Kp.refl ([]++zf u t) w7).ka a0 (Qb (Qf:u=0∨(t=t∧u≠0)∨w7.heap.size≤t)))
   refine dn 0 rfl rfl cG<|qb ?_
   have cH:=((((((((Gr.refl w).trans Y1).kz K3).kz K4 (Qb (Qp (A:=(fun x=>w.heap.size≤x)) d (.inl rfl)))).kz K5 (Qb (Qp (A:=(fun x=>w.heap.size≤x)) C (Qp (A:=(fun x=>w.heap.size≤x)) d (.inl rfl))))).kz K6 (Qb (Qp (A:=(fun x=>w.heap.size≤x)) G (Qp (A:=(fun x=>w.heap.size≤x)) C (Qp (A:=(fun x=>w.heap.size≤x)) d (.inl rfl)))))).trans G7).ka a0 (Qb (Qp (A:=(fun x=>w.heap.size≤x)) L (Qp (A:=(fun x=>w.heap.size≤x)) G (Qp (A:=(fun x=>w.heap.size≤x)) C (Qp (A:=(fun x=>w.heap.size≤x)) d (.inl rfl)))))))
   cases hm
   exact⟨_,_,rfl,Qz rfl (Qn rfl),cB,cC,cD,rfl,cE,⟨(Tq (A:=(fun x=>w.heap.size≤x)) cF (Qp (A:=(fun x=>w.heap.size≤x)) L (Qp (A:=(fun x=>w.heap.size≤x)) G (Qp (A:=(fun x=>w.heap.size≤x)) C (Qp (A:=(fun x=>w.heap.size≤x)) d (.inl rfl))))))⟩,cH⟩
 refine qu<|qs 5 rfl<|qm rfl<|qv rfl (Qh Qfo rfl)<|qv rfl (Qi (v:=.int .i64 p0.Epoch) Qm rfl aS rfl) ?_
 refine qv rfl (Ww Wu rfl) ?_
 obtain⟨x6,cI,hm⟩:=Qd hm
 refine qe rfl (eC Gn rfl (Gq cI aR S ⟨(Qb (Qo (b:=b2) d (.inl rfl)))⟩)) ?_
 rintro _ w9 ⟨bY,T,U,rfl,av,f,br,K9⟩
 have dJ:=K9.size
 have de:=av.lth
 refine qd 7 rfl<|qm rfl<|qv rfl (Qh Bp rfl)<|qv rfl (Qh Ux rfl) ?_
 have bZ:=(aS.kz K9 (Qb (Qo (b:=b1) d (.inl rfl))))
 refine qv rfl (Qi (v:=vp0_2) Cd rfl bZ rfl) ?_
 have Y2:=Gr.trans G1 G2
 have b0:=(((aP.gr Y2).kz K3 (Qb (Qw (b:=b2) H))).kz K9 (Zc ((Jh (Qp (A:=(fun x=>zp0_2=0∨x≠gp0_2)) d (.inl rfl) (fun x hx=>(Qb H.o)))):zp0_2=0∨J=0∨gp0_2≠K) (Qw (b:=b2) H)))
 refine qv rfl (Kq (l:=p0.Head.Items) (c:=Zr.cs) Tryz.underlying47 rfl b0)<|qv rfl (Ww Wu rfl) ?_
 obtain⟨x7,cJ,hm⟩:=Qd hm
 refine qe rfl (eC Gn rfl (Gq cJ br av ⟨(Qb (Qo (b:=b2) f (Qo d (.inl rfl))))⟩)) ?_
 rintro _ M ⟨ax,j,n,rfl,V,g,a1,ay⟩
 have dK:=ay.size
 have df:=V.lth
 refine Qa<|Qe<|qs 5 rfl<|qv rfl (Qh Bp rfl)<|qv rfl (Qh Ux rfl) ?_
 have b3:=(bZ.kz ay (Qb (Qo (b:=b1) f (Qo d (.inl rfl)))))
 refine qv rfl (Qi (v:=vp0_2) Cd rfl b3 rfl) ?_
 have bs:=(b0.kz ay (Zc ((Jh (Qp (A:=(fun x=>zp0_2=0∨x≠gp0_2)) f (Qp (A:=(fun x=>zp0_2=0∨x≠gp0_2)) d (.inl rfl) (fun x hx=>(Qb H.o))) (fun x hx=>(Qb H.o)))):zp0_2=0∨T=0∨gp0_2≠U) (Qw (b:=b2) H)))
 refine qv rfl (Kq (l:=p0.Head.Items) (c:=Zr.cs) Tryz.underlying47 rfl bs)<|qm rfl<|Qa<|Xn ?_
 have cK:=(((((Gr.refl w).trans Y2).kz K3).kz K9 (Qb (Qp (A:=(fun x=>w.heap.size≤x)) d (.inl rfl)))).kz ay (Qb (Qp (A:=(fun x=>w.heap.size≤x)) f (Qp (A:=(fun x=>w.heap.size≤x)) d (.inl rfl)))))
 have cL:=((((aQ.gr Y2).kz K3 (Qb (Qw (b:=b2) F))).kz K9 (Zc ((Jh (Qp (A:=(fun x=>zp0_4=0∨x≠gp0_4)) d (.inl rfl) (fun x hx=>(Qb F.o)))):zp0_4=0∨J=0∨gp0_4≠K) (Qw (b:=b2) F))).kz ay (Zc ((Jh (Qp (A:=(fun x=>zp0_4=0∨x≠gp0_4)) f (Qp (A:=(fun x=>zp0_4=0∨x≠gp0_4)) d (.inl rfl) (fun x hx=>(Qb F.o))) (fun x hx=>(Qb F.o)))):zp0_4=0∨T=0∨gp0_4≠U) (Qw (b:=b2) F)))
 have cM:=((((ai.gr Y2).kz K3 (Qb (Qw (b:=b2) D))).kz K9 (Zc ((Jh (Qp (A:=(fun x=>zp0_39=0∨x≠gp0_39)) d (.inl rfl) (fun x hx=>(Qb D.o)))):zp0_39=0∨J=0∨gp0_39≠K) (Qw (b:=b2) D))).kz ay (Zc ((Jh (Qp (A:=(fun x=>zp0_39=0∨x≠gp0_39)) f (Qp (A:=(fun x=>zp0_39=0∨x≠gp0_39)) d (.inl rfl) (fun x hx=>(Qb D.o))) (fun x hx=>(Qb D.o)))):zp0_39=0∨T=0∨gp0_39≠U) (Qw (b:=b2) D)))
 refine Kf (α:=Nat × Int × Kh × Value × Nat × Nat) ([5]++rg 56 21) (fun⟨n1,aj,az,vy13,zy13,gy13⟩=>[(56,.int .i64 aj)]) (fun⟨n1,aj,az,vy13,zy13,gy13⟩ wr=>(Qv (Qa8 p0) n1 (aj,az)=some r)∧Qg wr zy13 gy13 5 1 vy13 (az.out.map Jg)∧Xd (zy13=0∨(gy13=n∧j≠0)∨M.heap.size≤gy13)∧Bx wr b2 144 (Kh.cs az vy13)∧Kz [(1,b2),(j,n)] M wr) (fun⟨n1,aj,az,vy13,zy13,gy13⟩=>n1) ⟨Xb,0,x7,ax,j,n⟩ ?_ ?_ ?_
 · exact Ql
 · exact⟨hm,V,⟨Qf⟩,a1,Kz.refl _ _⟩
 clear hm;rintro⟨n1,aj,az,vy13,zy13,gy13⟩ dL ⟨hm,ak,h,al,aw⟩
 have dM:=aw.size
 have aY:=ak.lth
 have dg:=al.lt
 have hb:=Kl hm;clear hm;obtain⟨n1,rfl,hm⟩:=hb
 generalize bu:Qv (Qa8 p0) n1=di at hm
 unfold Qa8 at hm
 try dsimp only at hm
 refine qs 1 rfl<|qv rfl (Jv (a:=aj) (b:=(p0.Head.Items.length:Int)) rfl rfl)<|Qa<|Qe<|Zv hm rfl (fun c2 hm=>?_) (fun c2 hm=>?_)
 · refine qu<|Qe<|Xn<|qs 4 rfl ?_
   obtain⟨bw,bg,hm⟩:=Qd hm
   have b4:=(bs.kz aw (Zc ((Jh (Qp (A:=(fun x=>zp0_2=0∨x≠gp0_2)) g (Qp (A:=(fun x=>zp0_2=0∨x≠gp0_2)) f (Qp (A:=(fun x=>zp0_2=0∨x≠gp0_2)) d (.inl rfl) (fun x hx=>(Qb H.o))) (fun x hx=>(Qb H.o))) (fun x hx=>(Qb H.o)))):zp0_2=0∨j=0∨gp0_2≠n) (Qw (b:=b2) H)))
   refine qv rfl (Yq (i:=aj) Tryz.underlying47 (Ia).siz rfl b4 rfl bg)<|qv rfl (Qe2 Ia rfl b4 bg (by first|rfl|omega))<|qe rfl (Xg (cs:=Zr.cs (Zr.mk (Qx.mk 0 0) k0)) Qnq rfl) ?_
   rintro _ dN ⟨b5,rfl,cN,bh,a2⟩
   have dO:=a2.size
   have dj:=bh.lt
   refine qe rfl (Xf Ia rfl rfl rfl bh rfl rfl) ?_
   rintro _ dP ⟨bi,a3⟩
   have dQ:=a3.size
   refine qd 6 rfl<|qm rfl<|qv rfl (Qh Qag rfl)<|qv rfl (Qh Qae rfl)<|qv rfl (Qi (v:=.int .i64 bw.Subset.Node) Qm rfl bi rfl) ?_
   refine qv rfl (Ww Wu rfl) ?_
   have cO:=((al.gr a2).md a3)
   have cP:=((ak.gr a2).md a3 (Qw aY))
   obtain⟨dR,b6,hm⟩:=Qd hm
   refine qe rfl (eC Gn rfl (Gq b6 cO cP ⟨(Qb (Qo (b:=b2) h (Qo g (Qo f (Qo d (.inl rfl))))))⟩)) ?_
   rintro _ dS ⟨bD,bE,bF,rfl,W,I,a4,bx⟩
   have dT:=bx.size
   have dk:=W.lth
   refine qd 6 rfl<|qm rfl<|qv rfl (Qh Qag rfl)<|qv rfl (Qh Qaf rfl) ?_
   have b7:=(bi.kz bx (Qb (Qw (b:=b5) aY)))
   refine qv rfl (Qi (v:=.int .i64 bw.Subset.Minus) Qm rfl b7 rfl)<|qv rfl (Ww Wu rfl) ?_
   obtain⟨dU,b8,hm⟩:=Qd hm
   refine qe rfl (eC Gn rfl (Gq b8 a4 W ⟨(Qb (Qo (b:=b2) I (Qo h (Qo g (Qo f (Qo d (.inl rfl)))))))⟩)) ?_
   rintro _ dV ⟨bG,bH,bI,rfl,Z,N,a5,bz⟩
   have dW:=bz.size
   have dl:=Z.lth
   refine Qa<|qg 4 rfl<|qm rfl<|qv rfl (Qh Xak rfl) ?_
   have cQ:=(b7.kz bz (Qb (Qo (b:=b5) I (Qw aY))))
   refine qv rfl (Vk (vs:=kb bw.Box) Xk rfl cQ rfl rfl) ?_
   obtain⟨cR,b9,hm⟩:=Qd hm
   refine qe rfl (eC Qk0 rfl (Qk8 b9 a5 Z ⟨(Qb (Qo (b:=b2) N (Qo I (Qo h (Qo g (Qo f (Qo d (.inl rfl))))))))⟩)) ?_
   rintro _ cS ⟨aA,aB,aC,rfl,aa,aD,a6,ca⟩
   have dX:=ca.size
   have dp:=aa.lth
   refine Qk<|Xh<|Xl<|qg 2 rfl<|qv rfl (Zd (k:=.i64) (a:=aj) (b:=1) rfl rfl)<|qm rfl<|Qk ?_
   have K_56:Kz [(1,b2),(j,n)] M cS:=(((((aw.gr a2).md a3).kz bx (Qb (Qp (A:=(fun x=>(x=n∧j≠0)∨M.heap.size≤x)) h Qf))).kz bz (Qb (Qp (A:=(fun x=>(x=n∧j≠0)∨M.heap.size≤x)) I (Qp (A:=(fun x=>(x=n∧j≠0)∨M.heap.size≤x)) h Qf)))).kz ca (Qb (Qp (A:=(fun x=>(x=n∧j≠0)∨M.heap.size≤x)) N (Qp (A:=(fun x=>(x=n∧j≠0)∨M.heap.size≤x)) I (Qp (A:=(fun x=>(x=n∧j≠0)∨M.heap.size≤x)) h Qf)))))
   subst bu
   exact⟨rfl,⟨n1,Qc (aj+1),cR,aA,aB,aC⟩,Ql,⟨hm,aa,⟨(Qp (A:=(fun x=>(x=n∧j≠0)∨M.heap.size≤x)) aD (Qp (A:=(fun x=>(x=n∧j≠0)∨M.heap.size≤x)) N (Qp (A:=(fun x=>(x=n∧j≠0)∨M.heap.size≤x)) I (Qp (A:=(fun x=>(x=n∧j≠0)∨M.heap.size≤x)) h Qf))))⟩,a6,K_56⟩,Nat.lt_succ_self _⟩
 refine Jl<|Xu<|Xu<|Jk<|Xl<|qs 5 rfl ?_
 refine qm rfl<|qv rfl (Qh Bp rfl)<|qv rfl (Qh Qkd rfl) ?_
 have cb:=(b3.kz aw (Qb (Qo (b:=b1) g (Qo f (Qo d (.inl rfl))))))
 refine qv rfl (Qi (v:=wv p0.Head.Base) Zw rfl cb rfl) ?_
 obtain⟨dY,cc,hm⟩:=Qd hm
 refine qe rfl (eC Gn rfl (Gq cc al ak ⟨(Qb (Qo (b:=b2) h (Qo g (Qo f (Qo d (.inl rfl))))))⟩)) ?_
 rintro _ dZ ⟨bJ,O,P,rfl,ab,s,a7,aE⟩
 have d0:=aE.size
 have dq:=ab.lth
 refine qd 7 rfl<|qm rfl<|qv rfl (Qh Bp rfl)<|qv rfl (Qh Fb rfl) ?_
 have cd:=(cb.kz aE (Qb (Qo (b:=b1) h (Qo g (Qo f (Qo d (.inl rfl)))))))
 refine qv rfl (Qi (v:=vp0_4) Lu rfl cd rfl) ?_
 have ce:=((cL.kz aw (Zc ((Jh (Qp (A:=(fun x=>zp0_4=0∨x≠gp0_4)) g (Qp (A:=(fun x=>zp0_4=0∨x≠gp0_4)) f (Qp (A:=(fun x=>zp0_4=0∨x≠gp0_4)) d (.inl rfl) (fun x hx=>(Qb F.o))) (fun x hx=>(Qb F.o))) (fun x hx=>(Qb F.o)))):zp0_4=0∨j=0∨gp0_4≠n) (Qw (b:=b2) F))).kz aE (Zc ((Jh (Qp (A:=(fun x=>zp0_4=0∨x≠gp0_4)) h (Qp (A:=(fun x=>zp0_4=0∨x≠gp0_4)) g (Qp (A:=(fun x=>zp0_4=0∨x≠gp0_4)) f (Qp (A:=(fun x=>zp0_4=0∨x≠gp0_4)) d (.inl rfl) (fun x hx=>(Qb F.o))) (fun x hx=>(Qb F.o))) (fun x hx=>(Qb F.o))) (fun x hx=>(Qb F.o)))):zp0_4=0∨zy13=0∨gp0_4≠gy13) (Qw (b:=b2) F)))
 refine qv rfl (Kq (l:=p0.Head.Points) (c:=Xq.cs) Tryz.underlying48 rfl ce)<|qv rfl (Ww Wu rfl) ?_
 obtain⟨cT,cf,hm⟩:=Qd hm
 refine qe rfl (eC Gn rfl (Gq cf a7 ab ⟨(Qb (Qo (b:=b2) s (Qo h (Qo g (Qo f (Qo d (.inl rfl)))))))⟩)) ?_
 rintro _ am ⟨aF,y,z,rfl,ac,B,a8,aG⟩
 have d1:=aG.size
 have dr:=ac.lth
 refine Qa<|Qe<|qs 5 rfl<|qv rfl (Qh Bp rfl)<|qv rfl (Qh Fb rfl) ?_
 have cg:=(cd.kz aG (Qb (Qo (b:=b1) s (Qo h (Qo g (Qo f (Qo d (.inl rfl))))))))
 refine qv rfl (Qi (v:=vp0_4) Lu rfl cg rfl) ?_
 have ch:=(ce.kz aG (Zc ((Jh (Qp (A:=(fun x=>zp0_4=0∨x≠gp0_4)) s (Qp (A:=(fun x=>zp0_4=0∨x≠gp0_4)) h (Qp (A:=(fun x=>zp0_4=0∨x≠gp0_4)) g (Qp (A:=(fun x=>zp0_4=0∨x≠gp0_4)) f (Qp (A:=(fun x=>zp0_4=0∨x≠gp0_4)) d (.inl rfl) (fun x hx=>(Qb F.o))) (fun x hx=>(Qb F.o))) (fun x hx=>(Qb F.o))) (fun x hx=>(Qb F.o))) (fun x hx=>(Qb F.o)))):zp0_4=0∨O=0∨gp0_4≠P) (Qw (b:=b2) F)))
 refine qv rfl (Kq (l:=p0.Head.Points) (c:=Xq.cs) Tryz.underlying48 rfl ch)<|qm rfl<|Qa<|Xn ?_
 have cU:=(((cK.kz aw (Qb (Qp (A:=(fun x=>w.heap.size≤x)) g (Qp (A:=(fun x=>w.heap.size≤x)) f (Qp (A:=(fun x=>w.heap.size≤x)) d (.inl rfl)))))).kz aE (Qb (Qp (A:=(fun x=>w.heap.size≤x)) h (Qp (A:=(fun x=>w.heap.size≤x)) g (Qp (A:=(fun x=>w.heap.size≤x)) f (Qp (A:=(fun x=>w.heap.size≤x)) d (.inl rfl))))))).kz aG (Qb (Qp (A:=(fun x=>w.heap.size≤x)) s (Qp (A:=(fun x=>w.heap.size≤x)) h (Qp (A:=(fun x=>w.heap.size≤x)) g (Qp (A:=(fun x=>w.heap.size≤x)) f (Qp (A:=(fun x=>w.heap.size≤x)) d (.inl rfl))))))))
 have d2:=(((bs.kz aw (Zc ((Jh (Qp (A:=(fun x=>zp0_2=0∨x≠gp0_2)) g (Qp (A:=(fun x=>zp0_2=0∨x≠gp0_2)) f (Qp (A:=(fun x=>zp0_2=0∨x≠gp0_2)) d (.inl rfl) (fun x hx=>(Qb H.o))) (fun x hx=>(Qb H.o))) (fun x hx=>(Qb H.o)))):zp0_2=0∨j=0∨gp0_2≠n) (Qw (b:=b2) H))).kz aE (Zc ((Jh (Qp (A:=(fun x=>zp0_2=0∨x≠gp0_2)) h (Qp (A:=(fun x=>zp0_2=0∨x≠gp0_2)) g (Qp (A:=(fun x=>zp0_2=0∨x≠gp0_2)) f (Qp (A:=(fun x=>zp0_2=0∨x≠gp0_2)) d (.inl rfl) (fun x hx=>(Qb H.o))) (fun x hx=>(Qb H.o))) (fun x hx=>(Qb H.o))) (fun x hx=>(Qb H.o)))):zp0_2=0∨zy13=0∨gp0_2≠gy13) (Qw (b:=b2) H))).kz aG (Zc ((Jh (Qp (A:=(fun x=>zp0_2=0∨x≠gp0_2)) s (Qp (A:=(fun x=>zp0_2=0∨x≠gp0_2)) h (Qp (A:=(fun x=>zp0_2=0∨x≠gp0_2)) g (Qp (A:=(fun x=>zp0_2=0∨x≠gp0_2)) f (Qp (A:=(fun x=>zp0_2=0∨x≠gp0_2)) d (.inl rfl) (fun x hx=>(Qb H.o))) (fun x hx=>(Qb H.o))) (fun x hx=>(Qb H.o))) (fun x hx=>(Qb H.o))) (fun x hx=>(Qb H.o)))):zp0_2=0∨O=0∨gp0_2≠P) (Qw (b:=b2) H)))
 have d3:=(((cM.kz aw (Zc ((Jh (Qp (A:=(fun x=>zp0_39=0∨x≠gp0_39)) g (Qp (A:=(fun x=>zp0_39=0∨x≠gp0_39)) f (Qp (A:=(fun x=>zp0_39=0∨x≠gp0_39)) d (.inl rfl) (fun x hx=>(Qb D.o))) (fun x hx=>(Qb D.o))) (fun x hx=>(Qb D.o)))):zp0_39=0∨j=0∨gp0_39≠n) (Qw (b:=b2) D))).kz aE (Zc ((Jh (Qp (A:=(fun x=>zp0_39=0∨x≠gp0_39)) h (Qp (A:=(fun x=>zp0_39=0∨x≠gp0_39)) g (Qp (A:=(fun x=>zp0_39=0∨x≠gp0_39)) f (Qp (A:=(fun x=>zp0_39=0∨x≠gp0_39)) d (.inl rfl) (fun x hx=>(Qb D.o))) (fun x hx=>(Qb D.o))) (fun x hx=>(Qb D.o))) (fun x hx=>(Qb D.o)))):zp0_39=0∨zy13=0∨gp0_39≠gy13) (Qw (b:=b2) D))).kz aG (Zc ((Jh (Qp (A:=(fun x=>zp0_39=0∨x≠gp0_39)) s (Qp (A:=(fun x=>zp0_39=0∨x≠gp0_39)) h (Qp (A:=(fun x=>zp0_39=0∨x≠gp0_39)) g (Qp (A:=(fun x=>zp0_39=0∨x≠gp0_39)) f (Qp (A:=(fun x=>zp0_39=0∨x≠gp0_39)) d (.inl rfl) (fun x hx=>(Qb D.o))) (fun x hx=>(Qb D.o))) (fun x hx=>(Qb D.o))) (fun x hx=>(Qb D.o))) (fun x hx=>(Qb D.o)))):zp0_39=0∨O=0∨gp0_39≠P) (Qw (b:=b2) D)))
 refine Kf (α:=Nat × Int × Kh × Value × Nat × Nat) ([7]++rg 93 13) (fun⟨n2,an,aH,vy25,zy25,gy25⟩=>[(93,.int .i64 an)]) (fun⟨n2,an,aH,vy25,zy25,gy25⟩ wr=>(Qv (Qa9 p0) n2 (an,aH)=some r)∧Qg wr zy25 gy25 5 1 vy25 (aH.out.map Jg)∧Xd (zy25=0∨(gy25=z∧y≠0)∨am.heap.size≤gy25)∧Bx wr b2 144 (Kh.cs aH vy25)∧Kz [(1,b2),(y,z)] am wr) (fun⟨n2,an,aH,vy25,zy25,gy25⟩=>n2) ⟨Xb,0,cT,aF,y,z⟩ ?_ ?_ ?_
 · exact Ql
 · exact⟨hm,ac,⟨Qf⟩,a8,Kz.refl _ _⟩
 clear hm;rintro⟨n2,an,aH,vy25,zy25,gy25⟩ d4 ⟨hm,ao,E,ap,aZ⟩
 have d5:=aZ.size
 have bj:=ao.lth
 have ds:=ap.lt
 have hb:=Kl hm;clear hm;obtain⟨n2,rfl,hm⟩:=hb
 generalize bA:Qv (Qa9 p0) n2=dt at hm
 unfold Qa9 at hm
 try dsimp only at hm
 refine qs 1 rfl<|qv rfl (Jv (a:=an) (b:=(p0.Head.Points.length:Int)) rfl rfl)<|Qa<|Qe<|Zv hm rfl (fun c3 hm=>?_) (fun c3 hm=>?_)
 · refine qu<|Qe<|Xn<|qs 4 rfl ?_
   obtain⟨ci,bk,hm⟩:=Qd hm
   have cj:=(ch.kz aZ (Zc ((Jh (Qp (A:=(fun x=>zp0_4=0∨x≠gp0_4)) B (Qp (A:=(fun x=>zp0_4=0∨x≠gp0_4)) s (Qp (A:=(fun x=>zp0_4=0∨x≠gp0_4)) h (Qp (A:=(fun x=>zp0_4=0∨x≠gp0_4)) g (Qp (A:=(fun x=>zp0_4=0∨x≠gp0_4)) f (Qp (A:=(fun x=>zp0_4=0∨x≠gp0_4)) d (.inl rfl) (fun x hx=>(Qb F.o))) (fun x hx=>(Qb F.o))) (fun x hx=>(Qb F.o))) (fun x hx=>(Qb F.o))) (fun x hx=>(Qb F.o))) (fun x hx=>(Qb F.o)))):zp0_4=0∨y=0∨gp0_4≠z) (Qw (b:=b2) F)))
   refine qv rfl (Yq (i:=an) Tryz.underlying48 (Qbz).siz rfl cj rfl bk)<|qv rfl (Qe2 Qbz rfl cj bk (by first|rfl|omega))<|qe rfl (Xg (cs:=Xq.cs (Xq.mk 0#64 0#64)) Qnt rfl) ?_
   rintro _ d6 ⟨cV,rfl,cW,bl,a9⟩
   have d7:=a9.size
   have du:=bl.lt
   refine qe rfl (Xf Qbz rfl rfl rfl bl rfl rfl) ?_
   rintro _ d8 ⟨bm,ba⟩
   have d9:=ba.size
   refine qd 4 rfl<|qm rfl<|qv rfl (Qh Xam rfl)<|qv rfl (Qi (v:=wv ci.X) Zw rfl bm rfl) ?_
   have cX:=((ap.gr a9).md ba)
   have cY:=((ao.gr a9).md ba (Qw bj))
   obtain⟨ea,ck,hm⟩:=Qd hm
   refine qe rfl (eC Gn rfl (Gq ck cX cY ⟨(Qb (Qo (b:=b2) E (Qo B (Qo s (Qo h (Qo g (Qo f (Qo d (.inl rfl)))))))))⟩)) ?_
   rintro _ eb ⟨bK,bL,bM,rfl,ad,Q,bb,bB⟩
   have ec:=bB.size
   have dv:=ad.lth
   refine Qa<|qg 4 rfl<|qm rfl<|qv rfl (Qh Xan rfl) ?_
   have cZ:=(bm.kz bB (Qb (Qw (b:=cV) bj)))
   refine qv rfl (Qi (v:=wv ci.Y) Zw rfl cZ rfl) ?_
   obtain⟨c0,cl,hm⟩:=Qd hm
   refine qe rfl (eC Gn rfl (Gq cl bb ad ⟨(Qb (Qo (b:=b2) Q (Qo E (Qo B (Qo s (Qo h (Qo g (Qo f (Qo d (.inl rfl))))))))))⟩)) ?_
   rintro _ c4 ⟨aI,aJ,aK,rfl,ae,aL,bc,cm⟩
   have ed:=cm.size
   have dy:=ae.lth
   refine Qk<|Xh<|Xl<|qg 2 rfl<|qv rfl (Zd (k:=.i64) (a:=an) (b:=1) rfl rfl)<|qm rfl<|Qk ?_
   have K_83:Kz [(1,b2),(y,z)] am c4:=((((aZ.gr a9).md ba).kz bB (Qb (Qp (A:=(fun x=>(x=z∧y≠0)∨am.heap.size≤x)) E Qf))).kz cm (Qb (Qp (A:=(fun x=>(x=z∧y≠0)∨am.heap.size≤x)) Q (Qp (A:=(fun x=>(x=z∧y≠0)∨am.heap.size≤x)) E Qf))))
   subst bA
   exact⟨rfl,⟨n2,Qc (an+1),c0,aI,aJ,aK⟩,Ql,⟨hm,ae,⟨(Qp (A:=(fun x=>(x=z∧y≠0)∨am.heap.size≤x)) aL (Qp (A:=(fun x=>(x=z∧y≠0)∨am.heap.size≤x)) Q (Qp (A:=(fun x=>(x=z∧y≠0)∨am.heap.size≤x)) E Qf)))⟩,bc,K_83⟩,Nat.lt_succ_self _⟩
 refine Jl<|Xu<|Xu<|Jk<|Xl<|qs 5 rfl ?_
 refine qm rfl<|qv rfl (Qh Bp rfl)<|qv rfl (Qh Qke rfl) ?_
 have cn:=(cg.kz aZ (Qb (Qo (b:=b1) B (Qo s (Qo h (Qo g (Qo f (Qo d (.inl rfl)))))))))
 refine qv rfl (Vk (vs:=kb p0.Head.Box) Xk rfl cn rfl rfl) ?_
 obtain⟨ee,co,hm⟩:=Qd hm
 refine qe rfl (eC Qk0 rfl (Qk8 co ap ao ⟨(Qb (Qo (b:=b2) E (Qo B (Qo s (Qo h (Qo g (Qo f (Qo d (.inl rfl)))))))))⟩)) ?_
 rintro _ ef ⟨bN,bO,bP,rfl,af,R,bd,bC⟩
 have eg:=bC.size
 have dz:=af.lth
 refine qd 5 rfl<|qm rfl<|qv rfl (Qh Bp rfl)<|qv rfl (Qh Qqv rfl) ?_
 have c5:=(cn.kz bC (Qb (Qo (b:=b1) E (Qo B (Qo s (Qo h (Qo g (Qo f (Qo d (.inl rfl))))))))))
 refine qv rfl (Vk (vs:=kb p0.Head.Check) Xk rfl c5 rfl rfl) ?_
 obtain⟨eh,cp,hm⟩:=Qd hm
 refine qe rfl (eC Qk0 rfl (Qk8 cp bd af ⟨(Qb (Qo (b:=b2) R (Qo E (Qo B (Qo s (Qo h (Qo g (Qo f (Qo d (.inl rfl))))))))))⟩)) ?_
 rintro _ ei ⟨ag,aM,aN,rfl,ah,aO,bf,cq⟩
 have ej:=cq.size
 have dA:=ah.lth
 refine qd 5 rfl<|qm rfl<|qv rfl (Hy rfl rfl)<|qv rfl (Qh Qah rfl)<|qv rfl (Qi (v:=ag) Gx rfl bf rfl) ?_
 refine qm rfl<|Qa<|Qq ?_
 have c6:=(((cU.kz aZ (Qb (Qp (A:=(fun x=>w.heap.size≤x)) B (Qp (A:=(fun x=>w.heap.size≤x)) s (Qp (A:=(fun x=>w.heap.size≤x)) h (Qp (A:=(fun x=>w.heap.size≤x)) g (Qp (A:=(fun x=>w.heap.size≤x)) f (Qp (A:=(fun x=>w.heap.size≤x)) d (.inl rfl))))))))).kz bC (Qb (Qp (A:=(fun x=>w.heap.size≤x)) E (Qp (A:=(fun x=>w.heap.size≤x)) B (Qp (A:=(fun x=>w.heap.size≤x)) s (Qp (A:=(fun x=>w.heap.size≤x)) h (Qp (A:=(fun x=>w.heap.size≤x)) g (Qp (A:=(fun x=>w.heap.size≤x)) f (Qp (A:=(fun x=>w.heap.size≤x)) d (.inl rfl)))))))))).kz cq (Qb (Qp (A:=(fun x=>w.heap.size≤x)) R (Qp (A:=(fun x=>w.heap.size≤x)) E (Qp (A:=(fun x=>w.heap.size≤x)) B (Qp (A:=(fun x=>w.heap.size≤x)) s (Qp (A:=(fun x=>w.heap.size≤x)) h (Qp (A:=(fun x=>w.heap.size≤x)) g (Qp (A:=(fun x=>w.heap.size≤x)) f (Qp (A:=(fun x=>w.heap.size≤x)) d (.inl rfl)))))))))))
 cases hm
 exact⟨_,_,rfl,Qz rfl (Qn rfl),ag,aM,aN,rfl,ah,⟨(Qp (A:=(fun x=>w.heap.size≤x)) aO (Qp (A:=(fun x=>w.heap.size≤x)) R (Qp (A:=(fun x=>w.heap.size≤x)) E (Qp (A:=(fun x=>w.heap.size≤x)) B (Qp (A:=(fun x=>w.heap.size≤x)) s (Qp (A:=(fun x=>w.heap.size≤x)) h (Qp (A:=(fun x=>w.heap.size≤x)) g (Qp (A:=(fun x=>w.heap.size≤x)) f (Qp (A:=(fun x=>w.heap.size≤x)) d (.inl rfl))))))))))⟩,c6⟩
theorem Qx8 {p0 p1 r}(hm:Qca p0 p1=some r){w:World}:
 Calls Tryz.prog 124 [kv p0,kv p1].toArray w fun e w'=>∃ v,e=.returned v∧(v=kv r∧Gr w w'):=by
 unfold Qca at hm
 refine Xi 23 Tryz.func124 rfl rfl rfl<|qs 3 rfl<|qe rfl (Xo (cs:=kb p0) rfl rfl) ?_
 rintro _ w1 ⟨b1,rfl,D,g,G1⟩
 have z1:=G1.size
 have I:=g.lt
 refine qe rfl (Xo (cs:=kb p1) rfl rfl) ?_
 rintro _ w2 ⟨b2,rfl,E,j,G2⟩
 have z3:=G2.size
 have J:=j.lt
 refine qe rfl (Xg (cs:=kb k0) Yr rfl) ?_
 rintro _ w3 ⟨b3,rfl,F,d,G3⟩
 have z5:=G3.size
 have K:=d.lt
 refine Qa<|Qe<|qs 3 rfl ?_
 have B7:=((g.gr G2).gr G3)
 refine qv rfl (Xa Xk rfl B7 rfl) ?_
 have B8:=(j.gr G3)
 refine qv rfl (Xa Xk rfl B8 rfl)<|qv rfl (Qnf (cf:=kb) (a:=p0) (b:=p1) Qkb rfl rfl rfl rfl (fun h=>Uz h))<|Qa<|Zv hm rfl (fun c1 hm=>?_) (fun c1 hm=>?_)
 · refine qs 2 rfl<|qv rfl (Qe1 Qc6)<|qe rfl (Xf Xk rfl rfl rfl d rfl rfl) ?_
   rintro _ w4 ⟨o,M4⟩
   have z9:=M4.size
   refine qb ?_
   have s:=(((((Gr.refl w).trans G1).trans G2).trans G3).md M4)
   cases hm
   exact⟨_,_,rfl,Qz rfl (Zf Xk rfl o rfl),rfl,s⟩
 refine qu<|Qe<|qs 1 rfl<|qm rfl<|Qa ?_
 refine Xn ?_
 have t:=((((Gr.refl w).trans G1).trans G2).trans G3)
 refine Kf (α:=Nat × Int × W2) ([5]++rg 10 12) (fun⟨n1,a3,a4⟩=>[(10,.int .i64 a3)]) (fun⟨n1,a3,a4⟩ wr=>(Qv (Iu p1) n1 (a3,a4)=some r)∧Bx wr b1 39 (kb a4)∧Kz [(1,b1)] w3 wr) (fun⟨n1,a3,a4⟩=>n1) ⟨Xb,0,p0⟩ ?_ ?_ ?_
 · exact Ql
 · exact⟨hm,B7,Kz.refl _ _⟩
 clear hm;rintro⟨n1,a3,a4⟩ w5 ⟨hm,c,K5⟩
 have L:=K5.size
 have G:=c.lt
 have hb:=Kl hm;clear hm;obtain⟨n1,rfl,hm⟩:=hb
 generalize f:Qv (Iu p1) n1=H at hm
 unfold Iu at hm
 try dsimp only at hm
 refine qs 1 rfl<|qv rfl (Jv (a:=a3) (b:=16) rfl rfl)<|Qa<|Qe<|Kx hm rfl (fun c2 hm=>?_) (fun c2 hm=>?_)
 · refine Jl<|Xu<|Xu<|Jk<|Xl<|qs 2 rfl ?_
   refine qv rfl (Xa Xk rfl c rfl) ?_
   have u:=(d.kz K5)
   refine qe rfl (Xf Xk rfl rfl rfl u rfl rfl) ?_
   rintro _ w8 ⟨x,M8⟩
   have M:=M8.size
   refine Qa<|Qq ?_
   have y:=((t.kz K5).md M8)
   cases hm
   exact⟨_,_,rfl,Qz rfl (Zf Xk rfl x rfl),rfl,y⟩
 refine qu<|Qe<|Xn<|qs 2 rfl<|qm rfl ?_
 refine qm rfl<|Qa<|dw [([b1]),([])] [(8,[1])] (.leaf [(0,10),(1,10),(2,11),(3,10),(4,10),(5,10),(6,10),(7,10),(8,0)]) ?_
 intro w6 G6 N
 refine Zz<|dm 0 rfl rfl ?_
 obtain⟨y5,l,hm⟩:=Qd hm
 refine dh 0 rfl rfl (fun w hS=>Qe4 (i:=a3) (p:=a4) Tryz.underlying39 (Zb).siz rfl rfl l) ?_
 have m:=(c.gr G6)
 refine dh 1 rfl rfl (fun w hS=>Qil (off:=0) (p:=a4) (i:=a3) Zb rfl (Bx.kp m hS) rfl l (by omega))<|dm 0 rfl rfl ?_
 obtain⟨y6,n,hm⟩:=Qd hm
 refine dh 0 rfl rfl (fun w hS=>Qe4 (i:=a3) (p:=p1) Tryz.underlying39 (Zb).siz rfl rfl n) ?_
 have z:=((B8.kz K5).gr G6)
 refine dh 0 rfl rfl (fun w hS=>Qil (off:=0) (p:=p1) (i:=a3) Zb rfl (Bx.kp z hS) rfl n (by omega))<|dh 0 rfl rfl (fun w hS=>Xhw (a:=y5) (b:=y6) rfl rfl) ?_
 obtain⟨y7,A,hm⟩:=Qd hm
 refine dh 0 rfl rfl (fun w hS=>Qe4 (i:=a3) (p:=a4) Tryz.underlying39 (Zb).siz rfl rfl A) ?_
 obtain⟨x8,B,hm⟩:=Qd hm
 refine qz [(1,b1)] rfl (Xae (off:=0) (p:=a4) (q:=x8) (i:=a3) (cs':=kb x8) (Zb).siz rfl rfl m rfl B rfl rfl rfl) ⟨fun _=>Qf,nofun,trivial⟩ ?_
 rintro _ w7 ⟨C,M7⟩
 have O:=M7.size
 refine kM M7<|Qk<|Xh<|Xl<|qg 2 rfl<|qv rfl (Zd (k:=.i64) (a:=a3) (b:=1) rfl rfl)<|qm rfl ?_
 refine Qk ?_
 have K_17:Kz [(1,b1)] w3 w7:=((K5.gr G6).md M7)
 subst f
 exact⟨rfl,⟨n1,Qc (a3+1),x8⟩,Ql,⟨hm,C,K_17⟩,Nat.lt_succ_self _⟩
theorem Qx5 {p0 p1 p2 bp2 r}(hm:Qel p0 p1 p2=some r){w:World}(hbp2:Bx w bp2 39 (kb p2)):
 Calls Tryz.prog 123 [kv p0,kv p1,.pointer (some ⟨bp2,0,none⟩)].toArray w fun e w'=>∃ v,e=.returned v∧(v=kv r∧Gr w w'):=by
 have m:=hbp2.lt
 unfold Qel at hm
 refine Xi 11 Tryz.func123 rfl rfl rfl<|qs 3 rfl<|qe rfl (Xo (cs:=kb p0) rfl rfl) ?_
 rintro _ w1 ⟨b1,rfl,j,a,G1⟩
 have z2:=G1.size
 have n:=a.lt
 refine qe rfl (Xo (cs:=kb p1) rfl rfl) ?_
 rintro _ w2 ⟨b2,rfl,k,b,G2⟩
 have z4:=G2.size
 have o:=b.lt
 refine qe rfl (Xg (cs:=kb k0) Yr rfl) ?_
 rintro _ w3 ⟨b3,rfl,l,c,G3⟩
 have z6:=G3.size
 have p:=c.lt
 refine Qa<|Qe<|dw [([b3])] [] (.leaf [(0,10),(1,10),(2,10),(3,0),(4,0),(5,0)]) ?_
 intro w4 G4 q
 refine Zz ?_
 have Y1:=Gr.trans (Gr.trans (Gr.trans G1 G2) G3) G4
 have B8:=(hbp2.gr Y1)
 refine dh 0 rfl rfl (fun w hS=>Xa Xk rfl (Bx.kp B8 hS) rfl) ?_
 have Y2:=Gr.trans (Gr.trans G2 G3) G4
 have B9:=(a.gr Y2)
 refine dh 0 rfl rfl (fun w hS=>Xa Xk rfl (Bx.kp B9 hS) rfl) ?_
 have Y3:=Gr.trans G3 G4
 have d:=(b.gr Y3)
 refine dh 0 rfl rfl (fun w hS=>Xa Xk rfl (Bx.kp d hS) rfl) ?_
 obtain⟨x1,f,hm⟩:=Qd hm
 refine qz [] rfl (eC Qye rfl (Qx8 f)) ⟨fun _=>Qf,trivial⟩ ?_
 rintro _ w5 ⟨rfl,G5⟩
 have s:=G5.size
 refine kG G5<|qz [] rfl (eC Qcn rfl (Qfe p2 x1 _)) ⟨fun _=>Qf,trivial⟩ ?_
 rintro _ w6 ⟨rfl,G6⟩
 have t:=G6.size
 refine kG G6 ?_
 have g:=(((c.gr G4).gr G5).gr G6)
 refine qz [(1,b3)] rfl (Xf Xk rfl rfl rfl g rfl rfl) ⟨fun _=>Qf,trivial⟩ ?_
 rintro _ w7 ⟨h,M7⟩
 have u:=M7.size
 refine kM M7<|Qa<|Qq ?_
 have i:=(((((Gr.refl w).trans Y1).trans G5).trans G6).md M7)
 cases hm
 exact⟨_,_,rfl,Qz rfl (Zf Xk rfl h rfl),rfl,i⟩
theorem Qx6 {p0 p1 g vp1 zp1 gp1 op1 bp2_0 r}(hm:Qc9 p0 p1 g=some r){w:World}(m:Rd w zp1 gp1 op1 1 vp1 (p1.map Jg))(hbp2_0:Bx w bp2_0 39 (kb g)):
 Calls Tryz.prog 122 [kv p0,vp1,.func (.func 123) [].toArray [.pointer (some ⟨bp2_0,0,none⟩)].toArray].toArray w fun e w'=>∃ v,e=.returned v∧(v=kv r∧Gr w w'):=by
 have D:=m.lth
 have aa:=hbp2_0.lt
 unfold Qc9 at hm
 refine Xi 21 Tryz.func122 rfl rfl rfl<|qs 2 rfl<|qe rfl (Xo (cs:=kb p0) rfl rfl) ?_
 rintro _ w1 ⟨b1,rfl,S,q,G1⟩
 have z3:=G1.size
 have ab:=q.lt
 refine qe rfl (Xg (cs:=kb k0) Yr rfl) ?_
 rintro _ w2 ⟨b2,rfl,T,t,G2⟩
 have z5:=G2.size
 have ac:=t.lt
 refine Qa<|Qe<|Xn ?_
 have X7:=(((Gr.refl w).trans G1).trans G2)
 have B8:=((m.gr G1).gr G2)
 have B9:=(q.gr G2)
 refine Kf (α:=Nat × List (BitVec 8) × W2 × Value × Nat × Nat × Nat) ([1]++rg 7 13) (fun⟨n1,a4,a6,vy5,zy5,gy5,oy5⟩=>[(1,vy5)]) (fun⟨n1,a4,a6,vy5,zy5,gy5,oy5⟩ wr=>(Qv (Im g) n1 (a4,a6)=some r)∧Rd wr zy5 gy5 oy5 1 vy5 (a4.map Jg)∧Xd (zy5=0∨(gy5=gp1∧zp1≠0)∨w2.heap.size≤gy5)∧Bx wr b1 39 (kb a6)∧Kz [(1,b1)] w2 wr) (fun⟨n1,a4,a6,vy5,zy5,gy5,oy5⟩=>n1) ⟨Xb,p1,p0,vp1,zp1,gp1,op1⟩ ?_ ?_ ?_
 · exact Ql
 · exact⟨hm,B8,⟨Qf⟩,B9,Kz.refl _ _⟩
 clear hm;rintro⟨n1,a4,a6,vy5,zy5,gy5,oy5⟩ w3 ⟨hm,d,i,f,K3⟩
 have ad:=K3.size
 have u:=d.lth
 have U:=f.lt
 have hb:=Kl hm;clear hm;obtain⟨n1,rfl,hm⟩:=hb
 generalize j:Qv (Im g) n1=V at hm
 unfold Im at hm
 try dsimp only at hm
 refine Qe<|qs 3 rfl<|qm rfl<|qv rfl (Kq (l:=a4) (c:=Jg) Tryz.underlying51 rfl d)<|qv rfl (Wr (a:=(a4.length:Int)) (b:=0) rfl rfl)<|Qa ?_
 refine Kx hm rfl (fun c1 hm=>?_) (fun c1 hm=>?_)
 · refine Jl<|Xu<|Xu<|Jk<|Xl<|qs 2 rfl ?_
   refine qv rfl (Xa Xk rfl f rfl) ?_
   have E:=(t.kz K3)
   refine qe rfl (Xf Xk rfl rfl rfl E rfl rfl) ?_
   rintro _ w8 ⟨F,M8⟩
   have ae:=M8.size
   refine Qa<|Qq ?_
   have G:=((X7.kz K3).md M8)
   cases hm
   exact⟨_,_,rfl,Qz rfl (Zf Xk rfl F rfl),rfl,G⟩
 refine qu<|Xn<|qs 1 rfl<|qe rfl (Xg (cs:=kb k0) Yr rfl) ?_
 rintro _ w4 ⟨b4,rfl,W,k,G4⟩
 have af:=G4.size
 have X:=k.lt
 refine qd 6 rfl<|qm rfl ?_
 have y:=Qm8 (o:=0) (p:=k0) k rfl
 have Y:=y.lth
 refine qv rfl (Qnm (n:=16) (l:=0) (h:=16) Tryz.underlying39 (Zb).siz rfl rfl rfl (by decide) (by decide) (by decide))<|qm rfl ?_
 have z:=(d.gr G4)
 refine qe rfl (Xa8 (off:=0) (p:=k0) (s:=a4) (cs':=kb (Hr (Gj (Ze k0) a4))) Qc1 rfl rfl k rfl z rfl rfl) ?_
 rintro _ w5 ⟨rfl,H,M5⟩
 have ag:=M5.size
 obtain⟨l7,I,hm⟩:=Qd hm
 have J:=(z.md M5 (Qw u))
 refine qt rfl (Xht (P:=Tryz.prog) (lo:=Ru (Ze k0) a4) (hi:=(a4.length:Int)) (l:=a4) (c:=Jg) Tryz.underlying51 (Zb).siz rfl J ⟨_,rfl⟩ rfl I) ?_
 rintro K L B
 have Z:=B.lth
 refine qm rfl<|Qa<|qg 5 rfl<|qm rfl ?_
 have C:=((f.gr G4).md M5)
 refine qv rfl (Xa Xk rfl C rfl)<|qv rfl (Xa Xk rfl H rfl) ?_
 have M:=(((((hbp2_0.gr G1).gr G2).kz K3).gr G4).md M5)
 obtain⟨x8,N,hm⟩:=Qd hm
 refine qe rfl (Yu Qyd rfl rfl (Qx5 N M)) ?_
 rintro _ w6 ⟨rfl,G6⟩
 have ah:=G6.size
 have O:=(C.gr G6)
 refine qe rfl (Xf Xk rfl rfl rfl O rfl rfl) ?_
 rintro _ w7 ⟨Q,M7⟩
 have ai:=M7.size
 refine Qk<|Xh ?_
 have K_27:Kz [(1,b1)] w2 w7:=((((K3.gr G4).md M5).gr G6).md M7)
 have R:=((B.gr G6).md M7 (Qo i (Qw D)))
 subst j
 exact⟨rfl,⟨n1,l7,x8,K,zy5,gy5,L⟩,Ql,⟨hm,R,⟨(Qp (A:=(fun x=>(x=gp1∧zp1≠0)∨w2.heap.size≤x)) i Qf)⟩,Q,K_27⟩,Nat.lt_succ_self _⟩
theorem Qem {p0 p1 vp1 zp1 gp1 op1 r}(hm:Qc8 p0 p1=some r){w:World}(f:Rd w zp1 gp1 op1 1 vp1 (p1.map Jg)):
 Calls Tryz.prog 67 [kv p0,vp1].toArray w fun e w'=>∃ v,e=.returned v∧(v=.tuple [kv r.1,.int .i64 r.2].toArray∧Gr w w'):=by
 have i:=f.lth
 unfold Qc8 at hm
 refine Xi 20 Tryz.func67 rfl rfl rfl<|qs 3 rfl<|qe rfl (Xo (cs:=kb p0) rfl rfl) ?_
 rintro _ w1 ⟨b1,rfl,t,g,G1⟩
 have z2:=G1.size
 have z:=g.lt
 refine qe rfl (Xg (cs:=kb k0) Yr rfl) ?_
 rintro _ w2 ⟨b2,rfl,u,d,G2⟩
 have z4:=G2.size
 have A:=d.lt
 refine qm rfl<|Qa<|Qe<|qs 3 rfl<|qm rfl ?_
 have B6:=((f.gr G1).gr G2)
 refine qv rfl (Kq (l:=p1) (c:=Jg) Tryz.underlying51 rfl B6)<|qv rfl (Wr (a:=(p1.length:Int)) (b:=16384) rfl rfl)<|Qa<|Zv hm rfl (fun c1 hm=>?_) (fun c1 hm=>?_)
 · refine qs 3 rfl<|qv rfl (Qe1 Qc6)<|qe rfl (Xf Xk rfl rfl rfl d rfl rfl) ?_
   rintro _ w3 ⟨j,M3⟩
   have z7:=M3.size
   refine qm rfl<|qb ?_
   have X8:=((((Gr.refl w).trans G1).trans G2).md M3)
   cases hm
   exact⟨_,_,rfl,Za rfl (Zf Xk rfl j rfl) (Qn rfl),rfl,X8⟩
 refine qu<|qs 7 rfl ?_
 have B9:=(g.gr G2)
 refine qv rfl (Xa Xk rfl B9 rfl)<|qm rfl<|qv rfl (Kq (l:=p1) (c:=Jg) Tryz.underlying51 rfl B6)<|qv rfl (Ww Wu rfl)<|qe rfl (eC Dg rfl (Dd p0 (Qs 2#8) (Hv _) (Hu _) (wd (p1.length:Int)) _)) ?_
 rintro _ w4 ⟨rfl,G4⟩
 have B:=G4.size
 refine qe rfl (Xg (cs:=kb k0) Yr rfl) ?_
 rintro _ w5 ⟨b5,rfl,x,h,G5⟩
 have C:=G5.size
 have y:=h.lt
 refine qe rfl (Xf Xk rfl rfl rfl h rfl rfl) ?_
 rintro _ w6 ⟨k,M6⟩
 have D:=M6.size
 refine qd 6 rfl<|qv rfl (Xa Xk rfl k rfl)<|qm rfl<|qv rfl (Tu rfl rfl) ?_
 have Y1:=Gr.trans G4 G5
 have m:=((B6.gr Y1).md M6 (Qw i))
 have n:=((B9.gr Y1).md M6)
 obtain⟨x1,o,hm⟩:=Qd hm
 refine qe rfl (eC Qyc rfl (Qx6 o m n)) ?_
 rintro _ w7 ⟨rfl,G7⟩
 have E:=G7.size
 have p:=(((d.gr Y1).md M6).gr G7)
 refine qe rfl (Xf Xk rfl rfl rfl p rfl rfl) ?_
 rintro _ w8 ⟨q,M8⟩
 have F:=M8.size
 refine qm rfl<|Qa<|Qq ?_
 have s:=(((((((Gr.refl w).trans G1).trans G2).trans Y1).md M6).trans G7).md M8)
 cases hm
 exact⟨_,_,rfl,Za rfl (Zf Xk rfl q rfl) (Qn rfl),rfl,s⟩
theorem Qzx {p0 p1 vp1_2 zp1_2 gp1_2 op1_2 vp1_4 zp1_4 gp1_4 op1_4 vp1_39 zp1_39 gp1_39 op1_39 r}(hm:Qcs p0 p1=some r){w:World}(f:Rd w zp1_2 gp1_2 op1_2 18 vp1_2 (p1.Head.Items.map Zr.cs))(g:Rd w zp1_4 gp1_4 op1_4 2 vp1_4 (p1.Head.Points.map Xq.cs))(a:Rd w zp1_39 gp1_39 op1_39 1 vp1_39 (p1.Data.map Jg)):
 Calls Tryz.prog 37 [kv p0,.agg (Zl.cs p1 vp1_2 vp1_4 vp1_39).toArray].toArray w fun e w'=>∃ v,e=.returned v∧(v=kv r∧Gr w w'):=by
 have a1:=f.lth
 have a3:=g.lth
 have a4:=a.lth
 unfold Qcs at hm
 refine Xi 19 Tryz.func37 rfl rfl rfl<|qs 3 rfl<|qe rfl (Xo (cs:=kb p0) rfl rfl) ?_
 rintro _ w1 ⟨b1,rfl,aQ,P,G1⟩
 have z4:=G1.size
 have a5:=P.lt
 refine qe rfl (Xo (cs:=Zl.cs p1 vp1_2 vp1_4 vp1_39) rfl rfl) ?_
 rintro _ w2 ⟨b2,rfl,aR,Q,G2⟩
 have z6:=G2.size
 have a6:=Q.lt
 refine qe rfl (Xg (cs:=kb k0) Yr rfl) ?_
 rintro _ w3 ⟨b3,rfl,aS,R,G3⟩
 have z8:=G3.size
 have a7:=R.lt
 refine Qa ?_
 have Y1:=Gr.trans (Gr.trans G1 G2) G3
 have af:=((Gr.refl w).trans Y1)
 refine qj (β:=W2 × Nat) (rg 5 13) (fun⟨a2,bq1⟩=>[(5,.pointer (some ⟨bq1,0,none⟩))]) (fun⟨a2,bq1⟩ wr=>(Qk6 a2=some r)∧Bx wr bq1 39 (kb a2)∧w3.heap.size≤bq1∧Kz [] w3 wr) ?_ ?_
 · refine dw [([])] [] (.fork [(0,10),(1,10),(2,10),(3,10),(5,10)] (.fork [(4,0)] (.fork [(6,0)] (.leaf [(7,0),(8,10),(9,10),(10,10),(11,0),(12,0),(13,10)]) (.leaf [(11,0),(7,0),(8,10),(9,10),(10,10),(12,0),(13,10)])) (.leaf [(11,0),(6,0),(7,0),(8,10),(9,10),(10,10),(12,0),(13,10)])) (.leaf [(11,0),(4,0),(6,0),(7,0),(8,10),(9,10),(10,10),(12,0),(13,10)])) ?_
   intro w6 G6 a8
   refine Lx ?_
   have Y2:=Gr.trans (Gr.trans G2 G3) G6
   have ag:=(P.gr Y2)
   refine dh 0 rfl rfl (fun w hS=>Xa Xk rfl (Bx.kp ag hS) rfl)<|dh 0 rfl rfl (fun w hS=>Qh Qfo rfl) ?_
   have Y3:=Gr.trans G3 G6
   have S:=(Q.gr Y3)
   refine dh 0 rfl rfl (fun w hS=>Qi (v:=.int .i64 p1.Epoch) Qm rfl (Bx.kp S hS) rfl)<|dh 0 rfl rfl (fun w hS=>Ww Wu rfl)<|dh 0 rfl rfl (fun w hS=>Xa Th rfl (Bx.kp S hS) rfl)<|Lw ?_ ?_
   · refine Lx<|qz [] rfl (eC Dg rfl (Dd p0 (Qs 52#8) (Hv _) (Hu _) (wd p1.Epoch) _)) ⟨fun _=>Qf,trivial⟩ ?_
     rintro _ w7 ⟨rfl,G7⟩
     have a9:=G7.size
     refine kG G7<|Lw ?_ ?_
     · refine Lx ?_
       have Y4:=Gr.trans (Gr.trans Y1 G6) G7
       have ah:=(f.gr Y4)
       have ai:=(g.gr Y4)
       have aj:=(a.gr Y4)
       obtain⟨x3,ak,hm⟩:=Qd hm
       refine qz [] rfl (eC Qf6 rfl (Qff ak ah ai aj)) ⟨fun _=>Qf,trivial⟩ ?_
       rintro T w8 ⟨_,U,V,rfl,b,W,G8⟩
       have ba:=G8.size
       have aT:=b.lth
       refine kG G8<|Lw ?_ ?_
       · refine Zz ?_
         obtain⟨x4,al,hm⟩:=Qd hm
         refine qz [] rfl (eC Qfa rfl (Qem al (Qg.rd b))) ⟨fun _=>Qf,trivial⟩ ?_
         rintro _ w9 ⟨rfl,G9⟩
         have bb:=G9.size
         refine kG G9 ?_
         have j:=((((Kp.refl ([]) w6).gr G7).gr G8).gr G9)
         refine dn 0 rfl rfl j<|dn 0 rfl rfl j<|dn 0 rfl rfl j<|qz [] rfl (Xg (cs:=kb k0) Yr rfl) ⟨fun _=>Qf,trivial⟩ ?_
         rintro _ bc ⟨X,rfl,am,D,k⟩
         have bd:=k.size
         have aU:=D.lt
         refine kG k<|qz [(1,X)] rfl (Xf Xk rfl rfl rfl D rfl rfl) ⟨fun _=>Qf,trivial⟩ ?_
         rintro _ bf ⟨Y,l⟩
         have bg:=l.size
         refine kM l ?_
         have an:=((j.gr k).md l)
         refine dn 0 rfl rfl an<|Qk ?_
         exact⟨rfl,⟨x4.1,X⟩,Ql,hm,Y,(by omega),((((((Xe.gr G6).gr G7).gr G8).gr G9).gr k).md l)⟩
       refine Zz<|qz [] rfl (Xg (cs:=kb k0) Yr rfl) ⟨fun _=>Qf,trivial⟩ ?_
       rintro _ bh ⟨Z,rfl,ao,E,m⟩
       have bi:=m.size
       have aV:=E.lt
       refine kG m ?_
       have ap:=(b.gr m)
       obtain⟨x5,aq,hm⟩:=Qd hm
       refine qz [] rfl (eC Qfa rfl (Qem aq (Qg.rd ap))) ⟨fun _=>Qf,trivial⟩ ?_
       rintro _ bj ⟨rfl,n⟩
       have bk:=n.size
       refine kG n ?_
       have Y5:=Gr.trans (Gr.trans (Gr.trans G7 G8) m) n
       have o:=((Kp.refl ([]) w6).gr Y5)
       refine dn 0 rfl rfl o<|dn 0 rfl rfl o<|dn 0 rfl rfl o ?_
       have ar:=(E.gr n)
       refine qz [(1,Z)] rfl (Xf Xk rfl rfl rfl ar rfl rfl) ⟨fun _=>Qf,trivial⟩ ?_
       rintro _ bl ⟨aa,p⟩
       have bm:=p.size
       refine kM p ?_
       have au:=(o.md p)
       refine dn 0 rfl rfl au<|Qk ?_
       exact⟨rfl,⟨x5.1,Z⟩,Ql,hm,aa,(by omega),(((Xe.gr G6).gr Y5).md p)⟩
     refine Zz<|qz [] rfl (Xg (cs:=kb k0) Yr rfl) ⟨fun _=>Qf,trivial⟩ ?_
     rintro _ bo ⟨ab,rfl,av,F,q⟩
     have bp:=q.size
     have aW:=F.lt
     refine kG q ?_
     have Y6:=Gr.trans (Gr.trans (Gr.trans Y1 G6) G7) q
     have aw:=(f.gr Y6)
     have ax:=(g.gr Y6)
     have ay:=(a.gr Y6)
     obtain⟨x6,az,hm⟩:=Qd hm
     refine qz [] rfl (eC Qf6 rfl (Qff az aw ax ay)) ⟨fun _=>Qf,trivial⟩ ?_
     rintro H bq ⟨_,I,J,rfl,c,K,s⟩
     have br:=s.size
     have aX:=c.lth
     refine kG s ?_
     obtain⟨x7,aA,hm⟩:=Qd hm
     refine qz [] rfl (eC Qfa rfl (Qem aA (Qg.rd c))) ⟨fun _=>Qf,trivial⟩ ?_
     rintro _ bs ⟨rfl,t⟩
     have bu:=t.size
     refine kG t ?_
     have Y7:=Gr.trans (Gr.trans (Gr.trans G7 q) s) t
     have u:=((Kp.refl ([]) w6).gr Y7)
     refine dn 0 rfl rfl u<|dn 0 rfl rfl u<|dn 0 rfl rfl u ?_
     have aB:=((F.gr s).gr t)
     refine qz [(1,ab)] rfl (Xf Xk rfl rfl rfl aB rfl rfl) ⟨fun _=>Qf,trivial⟩ ?_
     rintro _ bw ⟨ac,x⟩
     have bx:=x.size
     refine kM x ?_
     have aC:=(u.md x)
     refine dn 0 rfl rfl aC<|Qk ?_
     exact⟨rfl,⟨x7.1,ab⟩,Ql,hm,ac,(by omega),(((Xe.gr G6).gr Y7).md x)⟩
   refine Zz<|qz [] rfl (Xg (cs:=kb k0) Yr rfl) ⟨fun _=>Qf,trivial⟩ ?_
   rintro _ bz ⟨ad,rfl,aD,G,y⟩
   have bA:=y.size
   have aY:=G.lt
   refine kG y<|qz [] rfl (eC Dg rfl (Dd p0 (Qs 52#8) (Hv _) (Hu _) (wd p1.Epoch) _)) ⟨fun _=>Qf,trivial⟩ ?_
   rintro _ bB ⟨rfl,h⟩
   have bC:=h.size
   refine kG h ?_
   have Y8:=Gr.trans (Gr.trans (Gr.trans Y1 G6) y) h
   have aE:=(f.gr Y8)
   have aF:=(g.gr Y8)
   have aG:=(a.gr Y8)
   obtain⟨x8,aH,hm⟩:=Qd hm
   refine qz [] rfl (eC Qf6 rfl (Qff aH aE aF aG)) ⟨fun _=>Qf,trivial⟩ ?_
   rintro L bD ⟨_,M,N,rfl,d,O,z⟩
   have bE:=z.size
   have aZ:=d.lth
   refine kG z ?_
   obtain⟨x9,aI,hm⟩:=Qd hm
   refine qz [] rfl (eC Qfa rfl (Qem aI (Qg.rd d))) ⟨fun _=>Qf,trivial⟩ ?_
   rintro _ bF ⟨rfl,A⟩
   have bG:=A.size
   refine kG A ?_
   have Y9:=Gr.trans (Gr.trans (Gr.trans y h) z) A
   have B:=((Kp.refl ([]) w6).gr Y9)
   refine dn 0 rfl rfl B<|dn 0 rfl rfl B<|dn 0 rfl rfl B ?_
   have aJ:=Gr.trans (Gr.trans h z) A
   have aK:=(G.gr aJ)
   refine qz [(1,ad)] rfl (Xf Xk rfl rfl rfl aK rfl rfl) ⟨fun _=>Qf,trivial⟩ ?_
   rintro _ bH ⟨ae,C⟩
   have bI:=C.size
   refine kM C ?_
   have aL:=(B.md C)
   refine dn 0 rfl rfl aL<|Qk ?_
   exact⟨rfl,⟨x9.1,ad⟩,Ql,hm,ae,(by omega),(((Xe.gr G6).gr Y9).md C)⟩
 clear hm;rintro⟨a2,bq1⟩ w4 ⟨hm,i,aM,K4⟩
 have bJ:=K4.size
 have a0:=i.lt
 unfold Qk6 at hm
 refine qs 2 rfl<|qv rfl (Xa Xk rfl i rfl) ?_
 have aN:=(R.kz K4)
 refine qe rfl (Xf Xk rfl rfl rfl aN rfl rfl) ?_
 rintro _ w5 ⟨aO,M5⟩
 have bK:=M5.size
 refine Qa<|Qq ?_
 have aP:=((af.kz K4).md M5)
 cases hm
 exact⟨_,_,rfl,Qz rfl (Zf Xk rfl aO rfl),rfl,aP⟩
theorem Qqc {p0 p1 p2 p3 vp3 zp3 gp3 op3 r}(hm:Bg p0 p1 p2 p3=some r){w:World}(B:Rd w zp3 gp3 op3 1 vp3 (p3.map ic)):
 Calls Tryz.prog 12 [kv p0,.agg (Qj.cs p1).toArray,.int .i64 p2,vp3].toArray w fun e w'=>∃ v,e=.returned v∧(∃ ur0_2 zr0_2 gr0_2 ur0_4 zr0_4 gr0_4 ur0_39 zr0_39 gr0_39,v=.tuple [.agg (Zl.cs r.1 ur0_2 ur0_4 ur0_39).toArray,.int .i64 r.2].toArray∧Qg w' zr0_2 gr0_2 139 18 ur0_2 (r.1.Head.Items.map Zr.cs)∧Xd (zr0_2=0∨w.heap.size≤gr0_2)∧Qg w' zr0_4 gr0_4 60 2 ur0_4 (r.1.Head.Points.map Xq.cs)∧Xd (zr0_4=0∨w.heap.size≤gr0_4)∧Qg w' zr0_39 gr0_39 5 1 ur0_39 (r.1.Data.map Jg)∧Xd (zr0_39=0∨w.heap.size≤gr0_39)∧Xd (zr0_4=0∨zr0_2=0∨gr0_4≠gr0_2)∧Xd (zr0_39=0∨zr0_2=0∨gr0_39≠gr0_2)∧Xd (zr0_39=0∨zr0_4=0∨gr0_39≠gr0_4)∧Gr w w'):=by
 have ar:=B.lth
 unfold Bg at hm
 refine Xi 35 Tryz.func12 rfl rfl rfl<|qs 4 rfl<|qe rfl (Xo (cs:=kb p0) rfl rfl) ?_
 rintro _ w1 ⟨b1,rfl,aj,C,G1⟩
 have z2:=G1.size
 have au:=C.lt
 refine qe rfl (Xo (cs:=Qj.cs p1) rfl rfl) ?_
 rintro _ w2 ⟨b2,rfl,ak,D,G2⟩
 have z4:=G2.size
 have av:=D.lt
 refine qe rfl (Xg (cs:=Zl.cs (Zl.mk 0#8 0 (Qy.mk [] 0#64 [] k0 k0) 0#8 0#64 [] k0) (.slice none 0 0) (.slice none 0 0) (.slice none 0 0)) Qeb rfl) ?_
 rintro _ w3 ⟨b3,rfl,al,y,G3⟩
 have z6:=G3.size
 have aw:=y.lt
 refine qm rfl<|qd 11 rfl ?_
 have Y1:=Gr.trans G2 G3
 have B8:=(C.gr Y1)
 refine qv rfl (Xa Xk rfl B8 rfl) ?_
 have B9:=(D.gr G3)
 refine qv rfl (Xa Zq rfl B9 rfl)<|qn 2 rfl ?_
 have S:=((B.gr G1).gr Y1)
 obtain⟨x1,T,hm⟩:=Qd hm
 refine qe rfl (eC Qz0 rfl (Qzu T S)) ?_
 rintro _ w4 ⟨c,l,m,d,n,p,rfl,f,g,h,i,E,G4⟩
 have ax:=G4.size
 have q:=f.lth
 have s:=h.lth
 refine qn 3 rfl<|qe rfl (Xg (cs:=Qy.cs (Qy.mk [] 0#64 [] k0 k0) (.slice none 0 0) (.slice none 0 0)) Lf rfl) ?_
 rintro _ w5 ⟨b5,rfl,am,F,G5⟩
 have ay:=G5.size
 have an:=F.lt
 have G:=(f.gr G5)
 have H:=(h.gr G5)
 refine qe rfl (Xf Jr rfl rfl (Qy.cs_ones _ _ _ (Qg.oneB G) (Qg.oneB H)) F rfl rfl) ?_
 rintro _ w6 ⟨U,M6⟩
 have az:=M6.size
 refine qm rfl<|Qa<|Qe<|qs 2 rfl<|qm rfl<|qv rfl (Kg (a:=x1.2) (b:=0) rfl rfl) ?_
 refine Qa<|Zv hm rfl (fun c1 hm=>?_) (fun c1 hm=>?_)
 · refine qs 4 rfl<|qv rfl (Zk (cs:=Zl.cs (Zl.mk 0#8 0 (Qy.mk [] 0#64 [] k0 k0) 0#8 0#64 [] k0) (.slice none 0 0) (.slice none 0 0) (.slice none 0 0)) Qob rfl (by kernel_rfl))<|qm rfl ?_
   have Y2:=Gr.trans G4 G5
   have V:=((y.gr Y2).md M6)
   refine qe rfl (Xf Th rfl rfl (Zl.cs_ones _ _ _ _ rfl rfl rfl) V rfl rfl) ?_
   rintro _ w7 ⟨W,M7⟩
   have aA:=M7.size
   refine qm rfl<|qb ?_
   have X:=((((((Gr.refl w).trans G1).trans Y1).trans Y2).md M6).md M7)
   cases hm
   exact⟨_,_,rfl,Za rfl (Zf Th rfl W rfl) (Qn rfl),(.slice none 0 0),0,0,(.slice none 0 0),0,0,(.slice none 0 0),0,0,rfl,(Zi _ 0 139 18),⟨.inl rfl⟩,(Zi _ 0 60 2),⟨.inl rfl⟩,(Zi _ 0 5 1),⟨.inl rfl⟩,⟨(.inl rfl)⟩,⟨(.inl rfl)⟩,⟨(.inl rfl)⟩,X⟩
 refine qu<|qs 5 rfl<|qm rfl<|qv rfl (Xa Jr rfl U rfl)<|qv rfl (Zk (cs:=Zl.cs (Zl.mk 1#8 p2 x1.1 0#8 0#64 [] k0) c d (.slice none 0 0)) Qob rfl (Vz rfl rfl rfl (Vz rfl rfl rfl (Vz rfl rfl rfl (by kernel_rfl))))) ?_
 refine qe rfl (Xg (cs:=Zl.cs (Zl.mk 0#8 0 (Qy.mk [] 0#64 [] k0 k0) 0#8 0#64 [] k0) (.slice none 0 0) (.slice none 0 0) (.slice none 0 0)) Qeb rfl) ?_
 rintro _ w8 ⟨b8,rfl,ao,I,G8⟩
 have aB:=G8.size
 have ap:=I.lt
 have J:=((G.md M6 (Qw q)).gr G8)
 have K:=((H.md M6 (Qw s)).gr G8)
 refine qe rfl (Xf Th rfl rfl (Zl.cs_ones _ _ _ _ (Qg.oneB J) (Qg.oneB K) rfl) I rfl rfl) ?_
 rintro _ w9 ⟨Y,M9⟩
 have aC:=M9.size
 refine Qa<|Qe<|dw [([b8]),([])] [(6,[1])] (.leaf [(0,10),(1,10),(3,11),(2,0),(4,0),(5,10),(6,0)]) ?_
 intro Z z aq
 refine Zz ?_
 have Y3:=Gr.trans G4 G5
 have aa:=(((((B8.gr Y3).md M6).gr G8).md M9).gr z)
 refine dh 0 rfl rfl (fun w hS=>Xa Xk rfl (Bx.kp aa hS) rfl)<|dm 0 rfl rfl ?_
 have L:=(Y.gr z)
 refine dh 1 rfl rfl (fun w hS=>Xa Th rfl (Bx.kp L hS) rfl) ?_
 obtain⟨x2,ab,hm⟩:=Qd hm
 refine qz [] rfl (eC Qjx rfl (Qk5 ab)) ⟨fun _=>Qf,fun _=>Qf,trivial⟩ ?_
 rintro _ aD ⟨rfl,t⟩
 have aE:=t.size
 refine kG t ?_
 have Y4:=Gr.trans z t
 have M:=((J.md M9 (Qw q)).gr Y4)
 have N:=((K.md M9 (Qw s)).gr Y4)
 obtain⟨x3,ac,hm⟩:=Qd hm
 refine qz [] rfl (eC Qz1 rfl (Qzx ac (Qg.rd M) (Qg.rd N) (Qg.rd (Zi _ 0 5 1)))) ⟨fun _=>Qf,fun _=>Qf,trivial⟩ ?_
 rintro _ aF ⟨rfl,j⟩
 have aG:=j.size
 refine kG j ?_
 have Y5:=Gr.trans t j
 have ad:=((Kp.refl ([b8]) Z).gr Y5)
 refine qh 0 rfl rfl ad (fun w hS=>Qh Qqx rfl) ?_
 have ae:=(L.gr Y5)
 refine qz [(1,b8)] rfl (Qab (cs':=Zl.cs (Zl.mk 1#8 p2 x1.1 0#8 0#64 [] x3) c d (.slice none 0 0)) (vs:=kb x3) (Xk).siz rfl rfl rfl rfl rfl ae rfl rfl) ⟨fun _=>Qf,nofun,trivial⟩ ?_
 rintro _ aH ⟨O,k⟩
 have aI:=k.size
 refine kM k<|qd 3 rfl<|qv rfl (Xa Th rfl O rfl) ?_
 have af:=(((((((y.gr Y3).md M6).gr G8).md M9).gr Y4).gr j).md k)
 have P:=((M.gr j).md k (Qw q))
 have Q:=((N.gr j).md k (Qw s))
 refine qe rfl (Xf Th rfl rfl (Zl.cs_ones _ _ _ _ (Qg.oneB P) (Qg.oneB Q) rfl) af rfl rfl) ?_
 rintro _ aJ ⟨R,u⟩
 have aK:=u.size
 refine qm rfl<|Qa<|Qq ?_
 have ag:=(P.md u (Qr g))
 have ah:=(Q.md u (Qr i))
 have ai:=(((((((((((Gr.refl w).trans G1).trans Y1).trans Y3).md M6).trans G8).md M9).trans Y4).trans j).md k).md u)
 cases hm
 exact⟨_,_,rfl,Za rfl (Zf Th rfl R rfl) (Qn rfl),c,l,m,d,n,p,(.slice none 0 0),0,0,rfl,ag,⟨(Xm (A:=(fun x=>w.heap.size≤x)) g)⟩,ah,⟨(Xm (A:=(fun x=>w.heap.size≤x)) i)⟩,(Zi _ 0 5 1),⟨.inl rfl⟩,⟨(Qb E.o)⟩,⟨(.inl rfl)⟩,⟨(.inl rfl)⟩,ai⟩
theorem Qzr {p0 r}(hm:Qcr p0=some r){w:World}:
 Calls Tryz.prog 69 [.agg (Zr.cs p0).toArray].toArray w fun e w'=>∃ v,e=.returned v∧(v=.bool r∧Gr w w'):=by
 unfold Qcr at hm
 refine Xi 21 Tryz.func69 rfl rfl rfl<|qs 2 rfl<|qe rfl (Xo (cs:=Zr.cs p0) rfl rfl) ?_
 rintro _ w1 ⟨b1,rfl,d,c,G1⟩
 have z1:=G1.size
 have f:=c.lt
 refine qm rfl<|qd 19 rfl<|qv rfl (Qh Qag rfl)<|qv rfl (Qh Qae rfl)<|qv rfl (Qi (v:=.int .i64 p0.Subset.Node) Qm rfl c rfl) ?_
 refine qv rfl (Qh Qag rfl)<|qv rfl (Qh Qaf rfl)<|qv rfl (Qi (v:=.int .i64 p0.Subset.Minus) Qm rfl c rfl)<|qv rfl (Qvd rfl rfl)<|qv rfl (Jv (a:=Ft p0.Subset.Node p0.Subset.Minus) (b:=0) rfl rfl)<|Ji hm rfl (Qt rfl) (fun c1 hm=>?_) (fun c1 hm=>?_)
 · refine qn 7 rfl ?_
   refine qn 3 rfl<|Qa<|Qq ?_
   have X3:=((Gr.refl w).trans G1)
   cases hm
   exact⟨_,_,rfl,Qz rfl (Qn rfl),rfl,X3⟩
 refine qv rfl (Qh Qag rfl)<|qv rfl (Qh Qae rfl)<|qv rfl (Qi (v:=.int .i64 p0.Subset.Node) Qm rfl c rfl)<|qv rfl (Qh Qag rfl)<|qv rfl (Qh Qaf rfl)<|qv rfl (Qi (v:=.int .i64 p0.Subset.Minus) Qm rfl c rfl)<|qv rfl (Qim rfl rfl) ?_
 refine qv rfl (Wr (a:=Yf p0.Subset.Node p0.Subset.Minus) (b:=127) rfl rfl)<|qn 2 rfl<|Qa<|Qq ?_
 have X4:=((Gr.refl w).trans G1)
 cases hm
 exact⟨_,_,rfl,Qz rfl (Qn rfl),rfl,X4⟩
theorem Xfs {p0 vp0 zp0 gp0 op0 r}(hm:Qia p0=some r){w:World}(d:Rd w zp0 gp0 op0 18 vp0 (p0.map Zr.cs)):
 Calls Tryz.prog 126 [vp0,.func (.func 69) [].toArray [].toArray].toArray w fun e w'=>∃ v,e=.returned v∧(v=.int .i64 r∧Gr w w'):=by
 have m:=d.lth
 unfold Qia at hm
 refine Xi 19 Tryz.func126 rfl rfl rfl<|qs 1 rfl<|qm rfl<|Qa<|Qe<|Qe ?_
 refine qg 3 rfl<|qm rfl<|qv rfl (Kq (l:=p0) (c:=Zr.cs) Tryz.underlying47 rfl d)<|qm rfl<|Qa<|Xn<|Kf (α:=Nat × Int) ([4,5]++rg 8 11) (fun⟨n1,a2⟩=>[(4,.int .i64 0),(8,.int .i64 a2)]) (fun⟨n1,a2⟩ wr=>(Qv (Aj p0) n1 a2=some r)∧Kz [] w wr) (fun⟨n1,a2⟩=>n1) ⟨Xb,0⟩ ?_ ?_ ?_
 · exact Ql
 · exact⟨hm,Kz.refl _ _⟩
 clear hm;rintro⟨n1,a2⟩ w1 ⟨hm,K1⟩
 have z2:=K1.size
 have hb:=Kl hm;clear hm;obtain⟨n1,rfl,hm⟩:=hb
 generalize f:Qv (Aj p0) n1=j at hm
 unfold Aj at hm
 try dsimp only at hm
 refine qs 1 rfl<|qv rfl (Jv (a:=a2) (b:=(p0.length:Int)) rfl rfl)<|Qa<|Qe<|Kx hm rfl (fun c1 hm=>?_) (fun c1 hm=>?_)
 · refine Jl<|Xu<|Xu<|Jk<|Xl<|qs 1 rfl ?_
   refine qm rfl<|Qa<|Qq ?_
   have X7:=((Gr.refl w).kz K1)
   cases hm
   exact⟨_,_,rfl,Qz rfl (Qn rfl),rfl,X7⟩
 refine qu<|Qe<|Xn<|qs 2 rfl<|qm rfl ?_
 refine qm rfl<|qd 6 rfl<|qn 3 rfl ?_
 obtain⟨y3,g,hm⟩:=Qd hm
 have B3:=(d.kz K1)
 refine qv rfl (Yq (i:=a2) Tryz.underlying47 (Ia).siz rfl B3 rfl g)<|qv rfl (Qe2 Ia rfl B3 g (by first|rfl|omega)) ?_
 obtain⟨x4,h,hm⟩:=Qd hm
 refine qe rfl (Yu Qzc rfl rfl (Qzr h)) ?_
 rintro _ w2 ⟨rfl,G2⟩
 have z4:=G2.size
 refine Qa<|Jo hm rfl (fun c2 hm=>?_) (fun c2 hm=>?_)
 · refine qs 2 rfl<|qn 2 rfl<|Qa<|Qq<|Jf ?_
   refine Xz<|Xz<|Jf<|Xz ?_
   have X5:=(((Gr.refl w).kz K1).trans G2)
   cases hm
   exact⟨_,_,rfl,Qz rfl (Qn rfl),rfl,X5⟩
 refine Jn<|Xh<|Xl<|qg 2 rfl<|qv rfl (Zd (k:=.i64) (a:=a2) (b:=1) rfl rfl)<|qm rfl<|Qk ?_
 have K_6:Kz [] w w2:=(K1.gr G2)
 subst f
 exact⟨rfl,⟨n1,Qc (a2+1)⟩,Ql,⟨hm,K_6⟩,Nat.lt_succ_self _⟩
theorem Xfq {p0 vp0 zp0 gp0 op0 r}(hm:Qdz p0=some r){w:World}(c:Rd w zp0 gp0 op0 18 vp0 (p0.map Zr.cs)):
 Calls Tryz.prog 70 [vp0,.func (.func 69) [].toArray [].toArray].toArray w fun e w'=>∃ v,e=.returned v∧(v=.bool r∧Gr w w'):=by
 have f:=c.lth
 unfold Qdz at hm
 refine Xi 9 Tryz.func70 rfl rfl rfl<|qs 1 rfl<|qm rfl<|qd 5 rfl ?_
 refine qn 2 rfl ?_
 obtain⟨x1,d,hm⟩:=Qd hm
 refine qe rfl (eC Qyg rfl (Xfs d c)) ?_
 rintro _ w1 ⟨rfl,G1⟩
 have z2:=G1.size
 refine qv rfl (Wk (a:=x1) (b:=0) rfl rfl)<|qm rfl<|Qa<|Qq ?_
 have X3:=((Gr.refl w).trans G1)
 cases hm
 exact⟨_,_,rfl,Qz rfl (Qn rfl),rfl,X3⟩
theorem Qzs {p0 vp0_2 zp0_2 gp0_2 op0_2 vp0_4 zp0_4 gp0_4 op0_4 vp0_39 zp0_39 gp0_39 op0_39 r}(hm:Qa5 p0=some r){w:World}(j:Rd w zp0_2 gp0_2 op0_2 18 vp0_2 (p0.Head.Items.map Zr.cs))(k:Rd w zp0_4 gp0_4 op0_4 2 vp0_4 (p0.Head.Points.map Xq.cs))(f:Rd w zp0_39 gp0_39 op0_39 1 vp0_39 (p0.Data.map Jg)):
 Calls Tryz.prog 39 [.agg (Zl.cs p0 vp0_2 vp0_4 vp0_39).toArray].toArray w fun e w'=>∃ v,e=.returned v∧(v=.int .i64 r∧Gr w w'):=by
 have s:=j.lth
 have t:=k.lth
 have u:=f.lth
 unfold Qa5 at hm
 refine Xi 99 Tryz.func39 rfl rfl rfl<|qs 2 rfl<|qe rfl (Xo (cs:=Zl.cs p0 vp0_2 vp0_4 vp0_39) rfl rfl) ?_
 rintro _ w1 ⟨b1,rfl,R,m,G1⟩
 have z4:=G1.size
 have T:=m.lt
 refine qm rfl<|qd 4 rfl<|qv rfl (Qh Bp rfl)<|qv rfl (Vk (vs:=Qy.cs p0.Head vp0_2 vp0_4) Jr rfl m rfl rfl)<|qe rfl (Xg (cs:=Qy.cs (Qy.mk [] 0#64 [] k0 k0) (.slice none 0 0) (.slice none 0 0)) Lf rfl) ?_
 rintro _ w2 ⟨b2,rfl,S,x,G2⟩
 have z6:=G2.size
 have U:=x.lt
 have Y1:=Gr.trans G1 G2
 have B8:=(j.gr Y1)
 have B9:=(k.gr Y1)
 refine qe rfl (Xf Jr rfl rfl (Qy.cs_ones _ _ _ (Rd.oneB B8) (Rd.oneB B9)) x rfl rfl) ?_
 rintro _ w3 ⟨g,M3⟩
 have V:=M3.size
 refine Qa ?_
 have A:=(((Gr.refl w).trans Y1).md M3)
 refine qj (β:=Bool) ([4]++rg 9 27) (fun a1=>[(4,.bool a1)]) (fun a1 wr=>(Ss p0 a1=some r)∧Kz [] w3 wr) ?_ ?_
 · refine qg 28 rfl<|qv rfl (Qh Ux rfl)<|qv rfl (Qi (v:=vp0_2) Cd rfl g rfl) ?_
   have B:=(B8.md M3 (Qw s))
   refine qv rfl (Kq (l:=p0.Head.Items) (c:=Zr.cs) Tryz.underlying47 rfl B)<|qv rfl (Zu (a:=(p0.Head.Items.length:Int)) (b:=0) rfl rfl)<|Vc hm rfl (Qt rfl) (fun C hm=>?_) (fun C hm=>?_)
   · refine qn 7 rfl ?_
     refine qn 7 rfl ?_
     refine qn 7 rfl ?_
     refine qn 2 rfl<|Qk ?_
     exact⟨rfl,false,Ql,hm,Xe⟩
   refine qv rfl (Qh Fb rfl)<|qv rfl (Qi (v:=vp0_4) Lu rfl g rfl) ?_
   have D:=(B9.md M3 (Qw t))
   refine qv rfl (Kq (l:=p0.Head.Points) (c:=Xq.cs) Tryz.underlying48 rfl D)<|qv rfl (Zu (a:=(p0.Head.Points.length:Int)) (b:=0) rfl rfl)<|qm rfl<|Vc hm rfl (Qt rfl) (fun E hm=>?_) (fun E hm=>?_)
   · refine qn 7 rfl ?_
     refine qn 7 rfl ?_
     refine qn 3 rfl<|Qk ?_
     exact⟨rfl,false,Ql,hm,Xe⟩
   refine qv rfl (Qh Qkd rfl)<|qv rfl (Qi (v:=wv p0.Head.Base) Zw rfl g rfl)<|qv rfl (Qe3 (c:=p0.Head.Base) (d:=0#64) rfl rfl)<|qm rfl<|Vc hm rfl (Qt rfl) (fun F hm=>?_) (fun F hm=>?_)
   · refine qn 7 rfl ?_
     refine qn 5 rfl<|Qk ?_
     exact⟨rfl,false,Ql,hm,Xe⟩
   refine qv rfl (Qh Qke rfl)<|qv rfl (Vk (vs:=kb p0.Head.Box) Xk rfl g rfl rfl)<|qv rfl (Qe1 Qc6)<|qv rfl (Qnf (cf:=kb) (a:=p0.Head.Box) (b:=k0) Qkb rfl rfl rfl rfl (fun h=>Uz h))<|qm rfl<|Vc hm rfl (Qt rfl) (fun G hm=>?_) (fun G hm=>?_)
   · refine qn 6 rfl<|Qk ?_
     exact⟨rfl,false,Ql,hm,Xe⟩
   refine qv rfl (Qh Qqv rfl)<|qv rfl (Vk (vs:=kb p0.Head.Check) Xk rfl g rfl rfl)<|qv rfl (Qe1 Qc6)<|qv rfl (Qnf (cf:=kb) (a:=p0.Head.Check) (b:=k0) Qkb rfl rfl rfl rfl (fun h=>Uz h))<|qn 2 rfl<|Qk ?_
   exact⟨rfl,(decide (p0.Head.Check=k0)),Ql,hm,Xe⟩
 clear hm;rintro a1 w4 ⟨hm,K4⟩
 have W:=K4.size
 unfold Ss at hm
 refine qs 1 rfl<|qm rfl<|qd 1 rfl<|qm rfl ?_
 refine Qa ?_
 have y:=(A.kz K4)
 refine qj (β:=Bool) ([6]++rg 36 61) (fun a2=>[(6,.bool a2)]) (fun a2 wr=>(Dx a2=some r)∧Kz [] w4 wr) ?_ ?_
 · refine qs 2 rfl<|qv rfl (Qh Qkf rfl) ?_
   have i:=(((m.gr G2).md M3).kz K4)
   refine qv rfl (Qi (v:=bv p0.Kind) Zb rfl i rfl)<|Qa<|Xn<|qs 2 rfl<|qv rfl (Vt (p:=p0.Kind) (q:=1#8) rfl rfl)<|qm rfl ?_
   refine Qa<|Kx hm rfl (fun c2 hm=>?_) (fun c2 hm=>?_)
   · refine qs 2 rfl<|qv rfl (Vt (p:=p0.Kind) (q:=2#8) rfl rfl)<|qm rfl<|Qa<|Kx hm rfl (fun c9 hm=>?_) (fun c9 hm=>?_)
     · refine Jn<|Xh ?_
       exact⟨rfl,false,Ql,hm,Xe⟩
     refine qg 18 rfl<|qv rfl (Qh Qfo rfl)<|qv rfl (Qi (v:=.int .i64 p0.Epoch) Qm rfl i rfl)<|qv rfl (Zu (a:=p0.Epoch) (b:=0) rfl rfl)<|Vc hm rfl (Qt rfl) (fun H hm=>?_) (fun H hm=>?_)
     · refine qn 7 rfl ?_
       refine qn 7 rfl ?_
       refine Qk<|Xh ?_
       exact⟨rfl,false,Ql,hm,Xe⟩
     refine qv rfl (Qh Qkg rfl)<|qv rfl (Qi (v:=bv p0.Low) Zb rfl i rfl)<|qv rfl (Qbp (p:=p0.Low) (q:=4#8) rfl rfl)<|qm rfl<|Vc hm rfl (Qt rfl) (fun I hm=>?_) (fun I hm=>?_)
     · refine qn 7 rfl ?_
       refine qn 2 rfl<|Qk<|Xh ?_
       exact⟨rfl,false,Ql,hm,Xe⟩
     refine qv rfl (Qh Qfp rfl)<|qv rfl (Qi (v:=vp0_39) Gx rfl i rfl) ?_
     have J:=(((f.gr Y1).md M3 (Qw u)).kz K4)
     refine qv rfl (Kq (l:=p0.Data) (c:=Jg) Tryz.underlying51 rfl J)<|qv rfl (Tt (a:=(p0.Data.length:Int)) (b:=256) rfl rfl)<|qm rfl<|Ji hm rfl (Qt rfl) (fun K hm=>?_) (fun K hm=>?_)
     · refine qn 3 rfl<|Qk<|Xh ?_
       exact⟨rfl,a1,Ql,hm,Xe⟩
     refine qn 3 rfl<|Qk<|Xh ?_
     exact⟨rfl,false,Ql,hm,Xe⟩
   refine qg 39 rfl<|qv rfl (Qh Qfo rfl)<|qv rfl (Qi (v:=.int .i64 p0.Epoch) Qm rfl i rfl) ?_
   obtain⟨x3,L,hm⟩:=Qd hm
   refine qe rfl (eC Qjz rfl (Qk7 L)) ?_
   rintro _ w6 ⟨rfl,G6⟩
   have X:=G6.size
   refine Ra hm rfl (Qt rfl) (fun c3 hm=>?_) (fun c3 hm=>?_)
   · refine qn 7 rfl ?_
     refine qn 7 rfl ?_
     refine qn 7 rfl ?_
     refine qn 7 rfl ?_
     refine qn 7 rfl ?_
     refine Qk<|Xh ?_
     exact⟨rfl,false,Ql,hm,(Xe.gr G6)⟩
   refine qv rfl (Qh Qkg rfl) ?_
   have n:=(i.gr G6)
   refine qv rfl (Qi (v:=bv p0.Low) Zb rfl n rfl)<|qv rfl (Vt (p:=p0.Low) (q:=0#8) rfl rfl)<|qm rfl<|Vc hm rfl (Qt rfl) (fun c4 hm=>?_) (fun c4 hm=>?_)
   · refine qn 7 rfl ?_
     refine qn 7 rfl ?_
     refine qn 7 rfl ?_
     refine qn 7 rfl ?_
     refine qn 2 rfl<|Qk<|Xh ?_
     exact⟨rfl,false,Ql,hm,(Xe.gr G6)⟩
   refine qv rfl (Qh Qqw rfl)<|qv rfl (Qi (v:=wv p0.Number) Zw rfl n rfl)<|qv rfl (Qe3 (c:=p0.Number) (d:=0#64) rfl rfl)<|qm rfl<|Vc hm rfl (Qt rfl) (fun c5 hm=>?_) (fun c5 hm=>?_)
   · refine qn 7 rfl ?_
     refine qn 7 rfl ?_
     refine qn 7 rfl ?_
     refine qn 4 rfl<|Qk<|Xh ?_
     exact⟨rfl,false,Ql,hm,(Xe.gr G6)⟩
   refine qv rfl (Qh Qfp rfl)<|qv rfl (Qi (v:=vp0_39) Gx rfl n rfl) ?_
   have M:=((((f.gr Y1).md M3 (Qw u)).kz K4).gr G6)
   refine qv rfl (Kq (l:=p0.Data) (c:=Jg) Tryz.underlying51 rfl M)<|qv rfl (Zu (a:=(p0.Data.length:Int)) (b:=0) rfl rfl)<|qm rfl<|Vc hm rfl (Qt rfl) (fun c6 hm=>?_) (fun c6 hm=>?_)
   · refine qn 7 rfl ?_
     refine qn 7 rfl ?_
     refine qn 5 rfl<|Qk<|Xh ?_
     exact⟨rfl,false,Ql,hm,(Xe.gr G6)⟩
   refine qv rfl (Qh Ux rfl) ?_
   have o:=((g.kz K4).gr G6)
   refine qv rfl (Qi (v:=vp0_2) Cd rfl o rfl) ?_
   have z:=(((B8.md M3 (Qw s)).kz K4).gr G6)
   refine qv rfl (Kq (l:=p0.Head.Items) (c:=Zr.cs) Tryz.underlying47 rfl z)<|qv rfl (Tt (a:=(p0.Head.Items.length:Int)) (b:=64) rfl rfl)<|qm rfl<|Vc hm rfl (Qt rfl) (fun c7 hm=>?_) (fun c7 hm=>?_)
   · refine qn 7 rfl ?_
     refine qn 6 rfl<|Qk ?_
     refine Xh ?_
     exact⟨rfl,false,Ql,hm,(Xe.gr G6)⟩
   refine qv rfl (Qh Fb rfl)<|qv rfl (Qi (v:=vp0_4) Lu rfl o rfl) ?_
   have N:=(((B9.md M3 (Qw t)).kz K4).gr G6)
   refine qv rfl (Kq (l:=p0.Head.Points) (c:=Xq.cs) Tryz.underlying48 rfl N)<|qv rfl (Tt (a:=(p0.Head.Points.length:Int)) (b:=8) rfl rfl)<|qm rfl<|Vc hm rfl (Qt rfl) (fun c8 hm=>?_) (fun c8 hm=>?_)
   · refine qn 7 rfl ?_
     refine Qk<|Xh ?_
     exact⟨rfl,false,Ql,hm,(Xe.gr G6)⟩
   refine qv rfl (Qh Ux rfl)<|qv rfl (Qi (v:=vp0_2) Cd rfl o rfl)<|qm rfl ?_
   obtain⟨x4,O,hm⟩:=Qd hm
   refine qe rfl (eC Qzd rfl (Xfq O z)) ?_
   rintro _ w7 ⟨rfl,G7⟩
   have Y:=G7.size
   refine qv rfl (Kd rfl)<|qn 2 rfl<|Qk<|Xh ?_
   exact⟨rfl,(!x4),Ql,hm,((Xe.gr G6).gr G7)⟩
 clear hm;rintro a2 w5 ⟨hm,K5⟩
 have Z:=K5.size
 unfold Dx at hm
 refine Qe<|qs 2 rfl<|qm rfl<|qv rfl (Kd rfl)<|Qa<|Jo hm rfl (fun c1 hm=>?_) (fun c1 hm=>?_)
 · refine qs 1 rfl<|qm rfl<|qb ?_
   have P:=(y.kz K5)
   cases hm
   exact⟨_,_,rfl,Qz rfl (Qn rfl),rfl,P⟩
 refine qu<|qs 1 rfl<|qm rfl<|Qa<|Qq ?_
 have Q:=(y.kz K5)
 cases hm
 exact⟨_,_,rfl,Qz rfl (Qn rfl),rfl,Q⟩
theorem Qqb {p0 vp0_2 zp0_2 gp0_2 op0_2 vp0_4 zp0_4 gp0_4 op0_4 vp0_39 zp0_39 gp0_39 op0_39 r}(hm:Su p0=some r){w:World}(i:Rd w zp0_2 gp0_2 op0_2 18 vp0_2 (p0.Head.Items.map Zr.cs))(j:Rd w zp0_4 gp0_4 op0_4 2 vp0_4 (p0.Head.Points.map Xq.cs))(g:Rd w zp0_39 gp0_39 op0_39 1 vp0_39 (p0.Data.map Jg)):
 Calls Tryz.prog 13 [.agg (Zl.cs p0 vp0_2 vp0_4 vp0_39).toArray].toArray w fun e w'=>∃ v,e=.returned v∧(∃ ur0_s zr0_s gr0_s,v=.tuple [ur0_s,.int .i64 r.2].toArray∧Qg w' zr0_s gr0_s 5 1 ur0_s (r.1.map Jg)∧Xd (zr0_s=0∨w.heap.size≤gr0_s)∧Gr w w'):=by
 have T:=i.lth
 have U:=j.lth
 have V:=g.lth
 unfold Su at hm
 refine Xi 15 Tryz.func13 rfl rfl rfl<|qs 3 rfl<|qe rfl (Xo (cs:=Zl.cs p0 vp0_2 vp0_4 vp0_39) rfl rfl) ?_
 rintro _ w1 ⟨b1,rfl,Q,u,G1⟩
 have z4:=G1.size
 have W:=u.lt
 refine qn 2 rfl<|Qa<|Qe<|qs 3 rfl<|qv rfl (Xa Th rfl u rfl) ?_
 have B6:=(i.gr G1)
 have B7:=(j.gr G1)
 have B8:=(g.gr G1)
 obtain⟨x1,C,hm⟩:=Qd hm
 refine qe rfl (eC Qz2 rfl (Qzs C B6 B7 B8)) ?_
 rintro _ w2 ⟨rfl,G2⟩
 have z9:=G2.size
 refine qm rfl<|qd 2 rfl<|qm rfl<|qv rfl (Kg (a:=x1) (b:=0) rfl rfl)<|Qa ?_
 refine Zv hm rfl (fun c1 hm=>?_) (fun c1 hm=>?_)
 · refine qs 3 rfl<|qn 3 rfl<|Qa<|Qq ?_
   refine Xz ?_
   have D:=(((Gr.refl w).trans G1).trans G2)
   cases hm
   exact⟨_,_,rfl,Za rfl (Qn rfl) (Qn rfl),(.slice none 0 0),0,0,rfl,(Zi _ 0 5 1),⟨.inl rfl⟩,D⟩
 refine qu<|Qe<|dw [([])] [] (.leaf [(0,10),(2,10),(3,10),(1,0),(4,0),(5,10),(6,10)]) ?_
 intro w3 G3 X
 refine Zz ?_
 have Y1:=Gr.trans G2 G3
 have y:=(u.gr Y1)
 refine dh 0 rfl rfl (fun w hS=>Xa Th rfl (Bx.kp y hS) rfl)<|dh 0 rfl rfl (fun w hS=>Qh Qqx rfl) ?_
 have t:=Qm8 (o:=40) (p:=p0.Mac) y rfl
 have R:=t.lth
 refine dh 0 rfl rfl (fun w hS=>Qnm (n:=16) (l:=0) (h:=16) Tryz.underlying39 (Zb).siz rfl rfl rfl (by decide) (by decide) (by decide)) ?_
 have E:=(B6.gr Y1)
 have F:=(B7.gr Y1)
 have G:=(B8.gr Y1)
 obtain⟨x2,H,hm⟩:=Qd hm
 refine qz [] rfl (eC Qf6 rfl (Qff H E F G)) ⟨fun _=>Qf,trivial⟩ ?_
 rintro z w4 ⟨_,k,q,rfl,f,d,G4⟩
 have Y:=G4.size
 have S:=f.lth
 refine kG G4 ?_
 have I:=(t.gr G4)
 obtain⟨l3,J,hm⟩:=Qd hm
 refine qz [(k,q)] rfl (Nk (l:=x2) (m:=Ze p0.Mac) (c:=Jg) Qc1 rfl rfl f I J (by decide)) ⟨fun _=>(Qb (Xm (A:=(fun x=>w3.heap.size≤x)) d)),trivial⟩ ?_
 rintro K w5 ⟨L,M,N,s,Z,O⟩
 have aa:=s.size
 refine⟨Kz.ofKa s,?_⟩
 have B:=(((Kp.refl ([]) w3).gr G4).ka s (Qb (Xm (A:=(fun x=>w3.heap.size≤x)) d)))
 refine dn 0 rfl rfl B<|dn 0 rfl rfl B<|Qa<|Qq ?_
 have P:=(((((Gr.refl w).trans G1).trans Y1).trans G4).ka s (Qb (Xm (A:=(fun x=>w.heap.size≤x)) d)))
 cases hm
 exact⟨_,_,rfl,Za rfl (Qn rfl) (Qn rfl),K,L,M,rfl,N,⟨(Tq (A:=(fun x=>w.heap.size≤x)) O (Xm (A:=(fun x=>w.heap.size≤x)) d))⟩,P⟩
theorem Qzv {p0 p1 p2 r}(hm:Bi p0 p1 p2=some r){w:World}:
 Calls Tryz.prog 14 [kv p0,.agg (Qj.cs p1).toArray,.int .i64 p2].toArray w fun e w'=>∃ v,e=.returned v∧(∃ ur0_1 zr0_1 gr0_1,v=.tuple [.agg (Xp.cs r.1 ur0_1).toArray,.int .i64 r.2].toArray∧Qg w' zr0_1 gr0_1 176 18 ur0_1 (r.1.Labels.map Je.cs)∧Xd (zr0_1=0∨w.heap.size≤gr0_1)∧Gr w w'):=by
 unfold Bi at hm
 refine Xi 27 Tryz.func14 rfl rfl rfl<|qs 4 rfl<|qe rfl (Xo (cs:=kb p0) rfl rfl) ?_
 rintro _ w1 ⟨b1,rfl,bf,Q,G1⟩
 have z1:=G1.size
 have bD:=Q.lt
 refine qe rfl (Xo (cs:=Qj.cs p1) rfl rfl) ?_
 rintro _ w2 ⟨b2,rfl,bg,ad,G2⟩
 have z3:=G2.size
 have bE:=ad.lt
 refine qe rfl (Xg (cs:=Xp.cs (Xp.mk 0 [] (Xq.mk 0#64 0#64)) (.slice none 0 0)) Qbt rfl) ?_
 rintro _ w3 ⟨b3,rfl,bh,z,G3⟩
 have z5:=G3.size
 have bF:=z.lt
 refine qm rfl<|qd 8 rfl ?_
 have B7:=(ad.gr G3)
 refine qv rfl (Xa Zq rfl B7 rfl)<|Cj 33 Tryz.func35 rfl rfl rfl Qjw rfl rfl rfl rfl rfl<|qs 3 rfl<|qe rfl (Xo (cs:=Qj.cs p1) rfl rfl) ?_
 rintro _ w4 ⟨b4,rfl,bi,R,G4⟩
 have z8:=G4.size
 have bG:=R.lt
 refine qe rfl (Xg (cs:=[.nilFunc,.nilFunc,.nilFunc,.nilFunc]) Wl rfl) ?_
 rintro _ w5 ⟨b5,rfl,bj,I,G5⟩
 have bH:=G5.size
 have bk:=I.lt
 refine qm rfl<|qd 3 rfl<|qv rfl (Zk (cs:=[.func (.func 59) #[] #[],.func (.func 60) #[] #[],.func (.func 61) #[] #[],.func (.func 62) #[] #[]]) Gi rfl rfl)<|qe rfl (Xg (cs:=[.nilFunc,.nilFunc,.nilFunc,.nilFunc]) Wl rfl) ?_
 rintro _ w6 ⟨b6,rfl,bl,ae,G6⟩
 have bI:=G6.size
 have bm:=ae.lt
 refine qe rfl (Xf Zo rfl rfl rfl ae rfl rfl) ?_
 rintro _ w7 ⟨S,M7⟩
 have bJ:=M7.size
 refine qd 8 rfl<|qv rfl (Zk (cs:=[.nilFunc,.nilFunc,.nilFunc,.nilFunc]) Gi rfl rfl)<|qv rfl (Vk (vs:=[.func (.func 59) #[] #[],.func (.func 60) #[] #[],.func (.func 61) #[] #[],.func (.func 62) #[] #[]]) Zo rfl S rfl rfl)<|qv rfl (Vk (vs:=[.func (.func 59) #[] #[],.func (.func 60) #[] #[],.func (.func 61) #[] #[],.func (.func 62) #[] #[]]) Zo rfl S rfl rfl)<|qv rfl (Vk (vs:=[.func (.func 59) #[] #[],.func (.func 60) #[] #[],.func (.func 61) #[] #[],.func (.func 62) #[] #[]]) Zo rfl S rfl rfl) ?_
 refine qv rfl (Zk (cs:=[.func (.func 30) #[] #[],.func (.func 63) #[] #[],.func (.func 64) #[] #[],.func (.func 65) #[] #[]]) Gi rfl rfl)<|qv rfl (Qii (cs:=[.nilFunc,.nilFunc,.nilFunc,.nilFunc,.func (.func 59) #[] #[],.func (.func 60) #[] #[],.func (.func 61) #[] #[],.func (.func 62) #[] #[],.func (.func 59) #[] #[],.func (.func 60) #[] #[],.func (.func 61) #[] #[],.func (.func 62) #[] #[],.func (.func 59) #[] #[],.func (.func 60) #[] #[],.func (.func 61) #[] #[],.func (.func 62) #[] #[],.func (.func 30) #[] #[],.func (.func 63) #[] #[],.func (.func 64) #[] #[],.func (.func 65) #[] #[]]) Qj2 rfl rfl)<|qe rfl (Xg (cs:=[.nilFunc,.nilFunc,.nilFunc,.nilFunc,.nilFunc,.nilFunc,.nilFunc,.nilFunc,.nilFunc,.nilFunc,.nilFunc,.nilFunc,.nilFunc,.nilFunc,.nilFunc,.nilFunc,.nilFunc,.nilFunc,.nilFunc,.nilFunc]) Qiu rfl) ?_
 rintro _ w8 ⟨b8,rfl,bo,af,G8⟩
 have bK:=G8.size
 have bp:=af.lt
 refine qe rfl (Xf Qiy rfl rfl rfl af rfl rfl) ?_
 rintro _ w9 ⟨ag,M9⟩
 have bL:=M9.size
 refine Qa<|Qe ?_
 have H:=((((((((((Gr.refl w).trans G1).trans G2).trans G3).trans G4).trans G5).trans G6).md M7).trans G8).md M9)
 refine qj (β:=Bool) (rg 14 9) (fun a1=>[(22,.bool a1)]) (fun a1 wr=>(Ul p0 p1 p2 a1=some r)∧Kz [] w9 wr) ?_ ?_
 · refine qg 9 rfl<|qv rfl (Qh Ye rfl) ?_
   have Y1:=Gr.trans G5 G6
   have ah:=((((R.gr Y1).md M7).gr G8).md M9)
   refine qv rfl (Qi (v:=bv p1.Kind) Zb rfl ah rfl)<|qv rfl (Qbp (p:=p1.Kind) (q:=1#8) rfl rfl)<|Ji hm rfl (Qt rfl) (fun c6 hm=>?_) (fun c6 hm=>?_)
   · refine qn 5 rfl<|Qk ?_
     exact⟨rfl,true,Ql,hm,Xe⟩
   refine qv rfl (Qh Ye rfl)<|qv rfl (Qi (v:=bv p1.Kind) Zb rfl ah rfl)<|qv rfl (Qne Gm rfl)<|qv rfl (Wk (a:=Qs p1.Kind) (b:=5) rfl rfl)<|qm rfl<|Qk ?_
   exact⟨rfl,(decide ((5:Int)≤Qs p1.Kind)),Ql,hm,Xe⟩
 clear hm;rintro a1 bM ⟨hm,c⟩
 have bN:=c.size
 unfold Ul at hm
 refine Jo hm rfl (fun c1 hm=>?_) (fun c1 hm=>?_)
 · refine qs 3 rfl<|qv rfl (Zk (cs:=[.nilFunc,.nilFunc,.nilFunc,.nilFunc]) Gi rfl rfl) ?_
   have aC:=(((((I.gr G6).md M7).gr G8).md M9).kz c)
   refine qe rfl (Xf Zo rfl rfl rfl aC rfl rfl) ?_
   rintro _ bO ⟨ai,T⟩
   have bP:=T.size
   refine qm rfl<|qb<|⟨_,_,rfl,Za rfl (Zf Zo rfl ai rfl) (Qn rfl),?_⟩
   refine qn 3 rfl<|qe rfl (Xg (cs:=[.nilFunc,.nilFunc,.nilFunc,.nilFunc]) Wl rfl) ?_
   rintro _ bQ ⟨bR,rfl,aD,L,U⟩
   have bS:=U.size
   have bq:=L.lt
   refine qe rfl (Xf Zo rfl rfl rfl L rfl rfl) ?_
   rintro _ bT ⟨br,V⟩
   have bU:=V.size
   refine qm rfl<|Qa<|Qe<|qs 2 rfl<|qm rfl<|qv rfl (Kg (a:=2) (b:=0) rfl rfl) ?_
   refine Qa<|Nb rfl<|qs 4 rfl<|qv rfl (Zk (cs:=Xp.cs (Xp.mk 0 [] (Xq.mk 0#64 0#64)) (.slice none 0 0)) Sh rfl rfl)<|qm rfl ?_
   have Y2:=Gr.trans (Gr.trans G4 G5) G6
   have aE:=((((((((z.gr Y2).md M7).gr G8).md M9).kz c).md T).gr U).md V)
   refine qe rfl (Xf Yi rfl rfl (Xp.cs_ones _ _ rfl) aE rfl rfl) ?_
   rintro _ bV ⟨aj,ak⟩
   have bW:=ak.size
   refine qm rfl<|qb ?_
   have aF:=(((((H.kz c).md T).trans U).md V).md ak)
   cases hm
   exact⟨_,_,rfl,Za rfl (Zf Yi rfl aj rfl) (Qn rfl),(.slice none 0 0),0,0,rfl,(Zi _ 0 176 18),⟨.inl rfl⟩,aF⟩
 refine qu<|qs 6 rfl<|qv rfl (Qh Ye rfl) ?_
 have Y3:=Gr.trans G5 G6
 have W:=(((((R.gr Y3).md M7).gr G8).md M9).kz c)
 refine qv rfl (Qi (v:=bv p1.Kind) Zb rfl W rfl) ?_
 by_cases c2:(Qs p1.Kind=1∨Qs p1.Kind=2∨Qs p1.Kind=3)
 · replace hm:=Hg c2 hm
   refine qv rfl (Qbn Tryz.underlying131 (Zo).siz rfl rfl (by omega)) ?_
   have aG:=(ag.kz c)
   refine qv rfl (Vk (vs:=[.func (.func 59) #[] #[],.func (.func 60) #[] #[],.func (.func 61) #[] #[],.func (.func 62) #[] #[]]) Zo rfl aG (by rcases c2 with h|h|h<;>rw[h]<;>rfl) rfl)<|qe rfl (Xg (cs:=[.nilFunc,.nilFunc,.nilFunc,.nilFunc]) Wl rfl) ?_
   rintro _ bX ⟨bY,rfl,aH,M,j⟩
   have bZ:=j.size
   have bs:=M.lt
   refine qe rfl (Xf Zo rfl rfl rfl M rfl rfl) ?_
   rintro _ b0 ⟨al,k⟩
   have b7:=k.size
   refine Qa<|Qe<|dw [([b5])] [] (.leaf [(0,10),(1,10),(2,10),(3,10),(4,0),(5,0),(6,10)]) ?_
   intro aI X bu
   refine Zz ?_
   have am:=(al.gr X)
   refine dh 0 rfl rfl (fun w hS=>Vk (vs:=[.func (.func 59) #[] #[],.func (.func 60) #[] #[],.func (.func 61) #[] #[],.func (.func 62) #[] #[]]) Zo rfl (Bx.kp am hS) rfl rfl)<|dh 0 rfl rfl (fun w hS=>Qh Qaj rfl)<|dh 0 rfl rfl (fun w hS=>Qi (v:=.func (.func 59) #[] #[]) El rfl (Bx.kp am hS) rfl) ?_
   have aJ:=(((W.gr j).md k).gr X)
   refine dh 0 rfl rfl (fun w hS=>Xa Zq rfl (Bx.kp aJ hS) rfl) ?_
   obtain⟨x2,aK,hm⟩:=Qd hm
   refine qz [] rfl (Yu Qa4 rfl rfl (Oc aK)) ⟨fun _=>Qf,trivial⟩ ?_
   rintro _ b9 ⟨rfl,J⟩
   have ca:=J.size
   refine kG J ?_
   have Y4:=Gr.trans X J
   have aL:=((((((((I.gr G6).md M7).gr G8).md M9).kz c).gr j).md k).gr Y4)
   refine qz [(1,b5)] rfl (Xf Zo rfl rfl rfl aL rfl rfl) ⟨fun _=>Qf,trivial⟩ ?_
   rintro _ cb ⟨an,l⟩
   have cc:=l.size
   refine kM l ?_
   have aM:=(((Kp.refl ([b5]) aI).gr J).md l)
   refine dn 0 rfl rfl aM<|Qa<|Qq<|⟨_,_,rfl,Za rfl (Zf Zo rfl an rfl) (Qn rfl),?_⟩
   refine qn 3 rfl<|qe rfl (Xg (cs:=[.nilFunc,.nilFunc,.nilFunc,.nilFunc]) Wl rfl) ?_
   rintro _ cd ⟨ce,rfl,aN,N,s⟩
   have cf:=s.size
   have bw:=N.lt
   refine qe rfl (Xf Zo rfl rfl rfl N rfl rfl) ?_
   rintro _ cg ⟨ao,t⟩
   have ch:=t.size
   refine qm rfl<|Qa<|Qe<|qs 2 rfl<|qm rfl<|qv rfl (Kg (a:=x2) (b:=0) rfl rfl) ?_
   refine Qa<|Zv hm rfl (fun c3 hm=>?_) (fun c3 hm=>?_)
   · refine qs 4 rfl<|qv rfl (Zk (cs:=Xp.cs (Xp.mk 0 [] (Xq.mk 0#64 0#64)) (.slice none 0 0)) Sh rfl rfl)<|qm rfl ?_
     have Y5:=Gr.trans G4 Y3
     have aO:=(((((((((((z.gr Y5).md M7).gr G8).md M9).kz c).gr j).md k).gr Y4).md l).gr s).md t)
     refine qe rfl (Xf Yi rfl rfl (Xp.cs_ones _ _ rfl) aO rfl rfl) ?_
     rintro _ ci ⟨ap,aq⟩
     have cj:=aq.size
     refine qm rfl<|qb ?_
     have aP:=((((((((H.kz c).trans j).md k).trans Y4).md l).trans s).md t).md aq)
     cases hm
     exact⟨_,_,rfl,Za rfl (Zf Yi rfl ap rfl) (Qn rfl),(.slice none 0 0),0,0,rfl,(Zi _ 0 176 18),⟨.inl rfl⟩,aP⟩
   refine qu<|qs 10 rfl<|qv rfl (Qh Qqy rfl)<|qv rfl (Qi (v:=.func (.func 60) #[] #[]) Ql7 rfl ao rfl) ?_
   have Y6:=Gr.trans (Gr.trans (Gr.trans G2 G3) G4) Y3
   have aQ:=(((((((((((Q.gr Y6).md M7).gr G8).md M9).kz c).gr j).md k).gr Y4).md l).gr s).md t)
   refine qv rfl (Xa Xk rfl aQ rfl) ?_
   have Y7:=Gr.trans G4 Y3
   have aR:=(((((((((((B7.gr Y7).md M7).gr G8).md M9).kz c).gr j).md k).gr Y4).md l).gr s).md t)
   refine qv rfl (Xa Zq rfl aR rfl)<|qm rfl ?_
   obtain⟨x3,aS,hm⟩:=Qd hm
   refine qe rfl (Yu Qz8 rfl rfl (Qxo aS)) ?_
   rintro _ ck ⟨B,C,D,rfl,d,g,Y⟩
   have cl:=Y.size
   have bx:=d.lth
   refine qn 2 rfl ?_
   have aT:=((((((((((((z.gr Y7).md M7).gr G8).md M9).kz c).gr j).md k).gr Y4).md l).gr s).md t).gr Y)
   refine qe rfl (Xf Yi rfl rfl (Xp.cs_ones _ _ (Qg.oneB d)) aT rfl rfl) ?_
   rintro _ cm ⟨ar,Z⟩
   have cn:=Z.size
   refine qm rfl<|Qa<|Qq ?_
   have aU:=(d.md Z (Qr g))
   have aV:=(((((((((H.kz c).trans j).md k).trans Y4).md l).trans s).md t).trans Y).md Z)
   cases hm
   exact⟨_,_,rfl,Za rfl (Zf Yi rfl ar rfl) (Qn rfl),B,C,D,rfl,aU,⟨(Xm (A:=(fun x=>w.heap.size≤x)) g)⟩,aV⟩
 replace hm:=Hf c2 hm
 by_cases c4:(Qs p1.Kind=4)
 · replace hm:=Hg c4 hm
   refine qv rfl (Qbn Tryz.underlying131 (Zo).siz rfl rfl (by omega)) ?_
   have aW:=(ag.kz c)
   refine qv rfl (Vk (vs:=[.func (.func 30) #[] #[],.func (.func 63) #[] #[],.func (.func 64) #[] #[],.func (.func 65) #[] #[]]) Zo rfl aW (by rw[c4];rfl) rfl)<|qe rfl (Xg (cs:=[.nilFunc,.nilFunc,.nilFunc,.nilFunc]) Wl rfl) ?_
   rintro _ co ⟨cp,rfl,aX,O,m⟩
   have cq:=m.size
   have bz:=O.lt
   refine qe rfl (Xf Zo rfl rfl rfl O rfl rfl) ?_
   rintro _ cr ⟨au,n⟩
   have ct:=n.size
   refine Qa<|Qe<|dw [([b5])] [] (.leaf [(0,10),(1,10),(2,10),(3,10),(4,0),(5,0),(6,10)]) ?_
   intro aY aa bA
   refine Zz ?_
   have av:=(au.gr aa)
   refine dh 0 rfl rfl (fun w hS=>Vk (vs:=[.func (.func 30) #[] #[],.func (.func 63) #[] #[],.func (.func 64) #[] #[],.func (.func 65) #[] #[]]) Zo rfl (Bx.kp av hS) rfl rfl)<|dh 0 rfl rfl (fun w hS=>Qh Qaj rfl)<|dh 0 rfl rfl (fun w hS=>Qi (v:=.func (.func 30) #[] #[]) El rfl (Bx.kp av hS) rfl) ?_
   have aZ:=(((W.gr m).md n).gr aa)
   refine dh 0 rfl rfl (fun w hS=>Xa Zq rfl (Bx.kp aZ hS) rfl) ?_
   obtain⟨x4,a0,hm⟩:=Qd hm
   refine qz [] rfl (Yu Qf4 rfl rfl (Qhk a0)) ⟨fun _=>Qf,trivial⟩ ?_
   rintro _ cu ⟨rfl,K⟩
   have cv:=K.size
   refine kG K ?_
   have Y8:=Gr.trans aa K
   have a2:=((((((((I.gr G6).md M7).gr G8).md M9).kz c).gr m).md n).gr Y8)
   refine qz [(1,b5)] rfl (Xf Zo rfl rfl rfl a2 rfl rfl) ⟨fun _=>Qf,trivial⟩ ?_
   rintro _ cw ⟨aw,o⟩
   have cx:=o.size
   refine kM o ?_
   have a3:=(((Kp.refl ([b5]) aY).gr K).md o)
   refine dn 0 rfl rfl a3<|Qa<|Qq<|⟨_,_,rfl,Za rfl (Zf Zo rfl aw rfl) (Qn rfl),?_⟩
   refine qn 3 rfl<|qe rfl (Xg (cs:=[.nilFunc,.nilFunc,.nilFunc,.nilFunc]) Wl rfl) ?_
   rintro _ cy ⟨cz,rfl,a4,P,u⟩
   have cA:=u.size
   have bB:=P.lt
   refine qe rfl (Xf Zo rfl rfl rfl P rfl rfl) ?_
   rintro _ cB ⟨ax,y⟩
   have cC:=y.size
   refine qm rfl<|Qa<|Qe<|qs 2 rfl<|qm rfl<|qv rfl (Kg (a:=x4) (b:=0) rfl rfl) ?_
   refine Qa<|Zv hm rfl (fun c5 hm=>?_) (fun c5 hm=>?_)
   · refine qs 4 rfl<|qv rfl (Zk (cs:=Xp.cs (Xp.mk 0 [] (Xq.mk 0#64 0#64)) (.slice none 0 0)) Sh rfl rfl)<|qm rfl ?_
     have Y9:=Gr.trans G4 Y3
     have a5:=(((((((((((z.gr Y9).md M7).gr G8).md M9).kz c).gr m).md n).gr Y8).md o).gr u).md y)
     refine qe rfl (Xf Yi rfl rfl (Xp.cs_ones _ _ rfl) a5 rfl rfl) ?_
     rintro _ cD ⟨ay,az⟩
     have cE:=az.size
     refine qm rfl<|qb ?_
     have a6:=((((((((H.kz c).trans m).md n).trans Y8).md o).trans u).md y).md az)
     cases hm
     exact⟨_,_,rfl,Za rfl (Zf Yi rfl ay rfl) (Qn rfl),(.slice none 0 0),0,0,rfl,(Zi _ 0 176 18),⟨.inl rfl⟩,a6⟩
   refine qu<|qs 10 rfl<|qv rfl (Qh Qqy rfl)<|qv rfl (Qi (v:=.func (.func 63) #[] #[]) Ql7 rfl ax rfl) ?_
   have a7:=Gr.trans (Gr.trans (Gr.trans G2 G3) G4) Y3
   have a8:=(((((((((((Q.gr a7).md M7).gr G8).md M9).kz c).gr m).md n).gr Y8).md o).gr u).md y)
   refine qv rfl (Xa Xk rfl a8 rfl) ?_
   have aA:=Gr.trans G4 Y3
   have a9:=(((((((((((B7.gr aA).md M7).gr G8).md M9).kz c).gr m).md n).gr Y8).md o).gr u).md y)
   refine qv rfl (Xa Zq rfl a9 rfl)<|qm rfl ?_
   obtain⟨x5,ba,hm⟩:=Qd hm
   refine qe rfl (Yu Qza rfl rfl (Xee ba)) ?_
   rintro _ cF ⟨E,F,G,rfl,f,i,ab⟩
   have cG:=ab.size
   have bC:=f.lth
   refine qn 2 rfl ?_
   have bb:=((((((((((((z.gr aA).md M7).gr G8).md M9).kz c).gr m).md n).gr Y8).md o).gr u).md y).gr ab)
   refine qe rfl (Xf Yi rfl rfl (Xp.cs_ones _ _ (Qg.oneB f)) bb rfl rfl) ?_
   rintro _ cH ⟨aB,ac⟩
   have cI:=ac.size
   refine qm rfl<|Qa<|Qq ?_
   have bc:=(f.md ac (Qr i))
   have bd:=(((((((((H.kz c).trans m).md n).trans Y8).md o).trans u).md y).trans ab).md ac)
   cases hm
   exact⟨_,_,rfl,Za rfl (Zf Yi rfl aB rfl) (Qn rfl),E,F,G,rfl,bc,⟨(Xm (A:=(fun x=>w.heap.size≤x)) i)⟩,bd⟩
 replace hm:=Hf c4 hm
 cases hm
end Go.Proofs.YtopkalcefepilaaGreat.Mx
