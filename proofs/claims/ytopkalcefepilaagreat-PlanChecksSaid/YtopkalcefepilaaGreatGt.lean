/- Walks that follow mirrors: Gt. Printed by mx.py. -/
import Derived.Test.YtopkalcefepilaaGreatZd
import Derived.Test.YtopkalcefepilaaGreatGb
set_option linter.unusedVariables false
set_option linter.unusedSimpArgs false
set_option maxRecDepth 100000
set_option maxHeartbeats 8000000
namespace Go.Proofs.YtopkalcefepilaaGreat.Mx
open Go Go.RowKit Go.Sx
theorem Qxp:ZV Tryz.prog 24 (.agg [.int .u64 0,.int .u64 0,.int .u64 0].toArray):=fun _=>by kernel_rfl
theorem Qoc:BS Tryz.prog 24 (fun i=>[(0,1),(1,1),(2,1)][i]?) [.int .u64 0,.int .u64 0,.int .u64 0]:=Ny Tryz.underlying24 Qxp ⟨rfl,(Kv).siz,rfl,(Kv).siz,rfl,(Kv).siz,trivial⟩
theorem Qqu:Ty Tryz.prog 24 [.i .u64,.i .u64,.i .u64]:=⟨by kernel_rfl,Tc,2,by decide,Qj0⟩
theorem Qeb:En Tryz.prog 85:=fun _ _=>by kernel_rfl
theorem Qh6:Wt Tryz.prog 30 4 3 1 [.int .i64 0,.int .i64 0,.int .i64 0,.int .i64 0]:=La Tryz.underlying30 (Qe).siz Dm rfl rfl (by kernel_rfl)
theorem Qpl:En Tryz.prog 178:=fun _ _=>by kernel_rfl
theorem Qnz:Ph Tryz.prog 209 252 1 24:=Ep Tryz.underlying209 rfl (by kernel_rfl)
theorem Qxq:ZV Tryz.prog 252 (.slice none 0 0):=fun _=>by kernel_rfl
theorem Yn:Ya Tryz.prog 252:=fun _=>⟨by kernel_rfl,by kernel_rfl⟩
theorem Qdy:CV Tryz.prog 3 151 .u64:=fun _ _ _=>by kernel_rfl
theorem Qxr:ZV Tryz.prog 30 (.slice none 0 0):=fun _=>by kernel_rfl
theorem Qog:Wt Tryz.prog 252 1 30 1 [.slice none 0 0]:=La Tryz.underlying252 (Zp).siz Qxr rfl rfl (by kernel_rfl)
theorem Qo0:Ph Tryz.prog 252 30 1 24:=Ep Tryz.underlying252 rfl (by kernel_rfl)
theorem Qii:En Tryz.prog 195:=fun _ _=>by kernel_rfl
theorem Qpm:En Tryz.prog 179:=fun _ _=>by kernel_rfl
theorem Qij:En Tryz.prog 197:=fun _ _=>by kernel_rfl
theorem Qie:En Tryz.prog 181:=fun _ _=>by kernel_rfl
theorem Qpp:En Tryz.prog 196:=fun _ _=>by kernel_rfl
theorem Qid:En Tryz.prog 180:=fun _ _=>by kernel_rfl
theorem Qfu {p0 r}(hm:Nl p0=some r){w:World}:
 Calls Tryz.prog 85 [.agg (Qo.cs p0).toArray].toArray w fun e w'=>∃ v,e=.returned v∧(v=.bool r∧Gr w w'):=by
 unfold Nl at hm
 refine Xj 32 Tryz.func85 rfl rfl rfl<|qs 2 rfl<|qe rfl (Xq (cs:=Qo.cs p0) rfl rfl) ?_
 rintro _ w1 ⟨b1,rfl,d,c,G1⟩
 have z1:=G1.size
 have f:=c.lt
 refine qm rfl<|qd 30 rfl<|qv rfl (Qg Kj rfl)<|qv rfl (Qf (v:=bv p0.Kind) Zb rfl c rfl)<|qv rfl (Qx2 (p:=p0.Kind) (q:=1#8) rfl rfl) ?_
 refine Jo hm rfl (Qt rfl) (fun c1 hm=>?_) (fun c1 hm=>?_)
 · refine qn 7 rfl ?_
   refine qn 7 rfl ?_
   refine qn 7 rfl ?_
   refine qn 5 rfl<|Qa<|Qp ?_
   have X8:=((Gr.refl w).trans G1)
   cases hm
   exact⟨_,_,rfl,Qr rfl (Ql rfl),rfl,X8⟩
 refine qv rfl (Qg Kj rfl)<|qv rfl (Qf (v:=bv p0.Kind) Zb rfl c rfl)<|qv rfl (Qgr (p:=p0.Kind) (q:=3#8) rfl rfl)<|qm rfl<|Jo hm rfl (Qt rfl) (fun c2 hm=>?_) (fun c2 hm=>?_)
 · refine qn 7 rfl ?_
   refine qn 7 rfl ?_
   refine qn 7 rfl ?_
   refine Qa<|Qp ?_
   have X7:=((Gr.refl w).trans G1)
   cases hm
   exact⟨_,_,rfl,Qr rfl (Ql rfl),rfl,X7⟩
 refine qv rfl (Qg Ji rfl)<|qv rfl (Qf (v:=.int .i64 p0.Depth) Qe rfl c rfl)<|qv rfl (Yq (a:=p0.Depth) (b:=0) rfl rfl)<|qm rfl<|Jo hm rfl (Qt rfl) (fun c3 hm=>?_) (fun c3 hm=>?_)
 · refine qn 7 rfl ?_
   refine qn 7 rfl ?_
   refine qn 2 rfl<|Qa<|Qp ?_
   have X6:=((Gr.refl w).trans G1)
   cases hm
   exact⟨_,_,rfl,Qr rfl (Ql rfl),rfl,X6⟩
 refine qv rfl (Qg Ji rfl)<|qv rfl (Qf (v:=.int .i64 p0.Depth) Qe rfl c rfl)<|qv rfl (Yr (a:=p0.Depth) (b:=6) rfl rfl)<|qm rfl<|Jo hm rfl (Qt rfl) (fun c4 hm=>?_) (fun c4 hm=>?_)
 · refine qn 7 rfl ?_
   refine qn 4 rfl<|Qa<|Qp ?_
   have X5:=((Gr.refl w).trans G1)
   cases hm
   exact⟨_,_,rfl,Qr rfl (Ql rfl),rfl,X5⟩
 refine qv rfl (Qg Tl rfl)<|qv rfl (Qf (v:=.int .i64 p0.Degree) Qe rfl c rfl)<|qv rfl (Xv (a:=p0.Degree) (b:=0) rfl rfl)<|qm rfl<|Jo hm rfl (Qt rfl) (fun c5 hm=>?_) (fun c5 hm=>?_)
 · refine qn 6 rfl<|Qa ?_
   refine Qp ?_
   have X4:=((Gr.refl w).trans G1)
   cases hm
   exact⟨_,_,rfl,Qr rfl (Ql rfl),rfl,X4⟩
 refine qv rfl (Qg Mf rfl)<|qv rfl (Eh (vs:=Xz.cs p0.Group) Tc rfl c rfl rfl)<|qv rfl (Kl (cs:=Xz.cs (Xz.mk 0#64 0#64 0#64)) Qoc rfl rfl)<|qv rfl (Qna (cf:=Xz.cs) (a:=p0.Group) (b:=(Xz.mk 0#64 0#64 0#64)) Qqu rfl rfl rfl rfl (fun h=>Xz.cs_inj h))<|qn 2 rfl<|Qa ?_
 refine Qp ?_
 have X3:=((Gr.refl w).trans G1)
 cases hm
 exact⟨_,_,rfl,Qr rfl (Ql rfl),rfl,X3⟩
theorem Que {p0 r}(hm:Iv p0=some r){w:World}:
 Calls Tryz.prog 176 [.agg (Qo.cs p0).toArray].toArray w fun e w'=>∃ v,e=.returned v∧(v=.int .i64 r∧Gr w w'):=by
 unfold Iv at hm
 refine Xj 6 Tryz.func176 rfl rfl rfl<|qs 2 rfl<|qe rfl (Xq (cs:=Qo.cs p0) rfl rfl) ?_
 rintro _ w1 ⟨b1,rfl,c,a,G1⟩
 have z1:=G1.size
 have d:=a.lt
 refine qm rfl<|Qa<|Qh<|qs 3 rfl<|qv rfl (Xm Zj rfl a rfl) ?_
 obtain⟨x1,b,hm⟩:=Qc hm
 refine qe rfl (eC Qeb rfl (Qfu b)) ?_
 rintro _ w2 ⟨rfl,G2⟩
 have z3:=G2.size
 refine qv rfl (Zr rfl)<|Qa<|Zh hm rfl (fun c1 hm=>?_) (fun c1 hm=>?_)
 · refine qs 1 rfl<|qm rfl<|qb ?_
   have X4:=(((Gr.refl w).trans G1).trans G2)
   cases hm
   exact⟨_,_,rfl,Qr rfl (Ql rfl),rfl,X4⟩
 refine qu<|qs 1 rfl<|qm rfl<|Qa<|Qp ?_
 have X5:=(((Gr.refl w).trans G1).trans G2)
 cases hm
 exact⟨_,_,rfl,Qr rfl (Ql rfl),rfl,X5⟩
theorem Quz {p0 r}(hm:Qg1 p0=some r){w:World}:
 Calls Tryz.prog 178 [bv p0].toArray w fun e w'=>∃ v,e=.returned v∧(v=.int .i64 r∧Gr w w'):=by
 unfold Qg1 at hm
 refine Xj 7 Tryz.func178 rfl rfl rfl<|qs 1 rfl<|qm rfl<|qd 5 rfl ?_
 refine qe rfl (Kt [0,1,2,4] ic Qh6 rfl rfl (Vj rfl) rfl rfl rfl) ?_
 rintro d w1 ⟨f,c,a,G1⟩
 have z1:=G1.size
 have g:=a.lth
 refine qm rfl ?_
 obtain⟨y1,b,hm⟩:=Qc hm
 refine qv rfl (Jl (i:=Jn p0) Tryz.underlying30 (Qe).siz rfl (Qk.rd a) rfl b)<|qv rfl (Zt (q:=0) (u:=.int .i64 y1) Qe rfl (Qk.rd a) b (by first|rfl|omega) rfl)<|qm rfl<|Qa<|Qp ?_
 have X3:=((Gr.refl w).trans G1)
 cases hm
 exact⟨_,_,rfl,Qr rfl (Ql rfl),rfl,X3⟩
theorem Qlg {p0 r}(hm:Qcz p0=some r){w:World}:
 Calls Tryz.prog 195 [.int .i64 p0].toArray w fun e w'=>∃ v,e=.returned v∧(v=.int .i64 r∧Gr w w'):=by
 unfold Qcz at hm
 refine Xj 7 Tryz.func195 rfl rfl rfl<|qs 1 rfl<|qm rfl<|qd 5 rfl ?_
 refine qe rfl (Kt [0,1,1,2] ic Qh6 rfl rfl (Vj rfl) rfl rfl rfl) ?_
 rintro d w1 ⟨f,c,a,G1⟩
 have z1:=G1.size
 have g:=a.lth
 refine qm rfl ?_
 obtain⟨y1,b,hm⟩:=Qc hm
 refine qv rfl (Jl (i:=p0) Tryz.underlying30 (Qe).siz rfl (Qk.rd a) rfl b)<|qv rfl (Zt (q:=0) (u:=.int .i64 y1) Qe rfl (Qk.rd a) b (by first|rfl|omega) rfl)<|qm rfl<|Qa<|Qp ?_
 have X3:=((Gr.refl w).trans G1)
 cases hm
 exact⟨_,_,rfl,Qr rfl (Ql rfl),rfl,X3⟩
theorem Quy {p0 p1 p2 r}(hm:Qg0 p0 p1 p2=some r){w:World}:
 Calls Tryz.prog 179 [bv p0,.int .i64 p1,.int .i64 p2].toArray w fun e w'=>∃ v,e=.returned v∧(v=.int .i64 r∧Gr w w'):=by
 unfold Qg0 at hm
 refine Xj 15 Tryz.func179 rfl rfl rfl<|qs 1 rfl<|qm rfl<|Qa<|Qh<|Qh ?_
 refine qg 2 rfl<|qm rfl<|qv rfl (Jz (p:=p0) (q:=1#8) rfl rfl)<|Qa<|Zq hm rfl (fun c1 hm=>?_) (fun c1 hm=>?_)
 · refine qs 3 rfl<|qm rfl<|qv rfl (Js (k:=.i64) (a:=1) (b:=p2) rfl rfl)<|qm rfl<|Qa<|Qp ?_
   refine Xp ?_
   cases hm
   exact⟨_,_,rfl,Qr rfl (Ql rfl),rfl,(Gr.refl w)⟩
 refine qu<|qs 5 rfl<|qn 2 rfl ?_
 obtain⟨x1,c,hm⟩:=Qc hm
 refine qe rfl (eC Qii rfl (Qlg c)) ?_
 rintro _ w1 ⟨rfl,G1⟩
 have z1:=G1.size
 refine qv rfl (Kb (k:=.i64) (a:=p2) (b:=x1) rfl rfl)<|qm rfl<|Qa<|Qp ?_
 have X2:=((Gr.refl w).trans G1)
 cases hm
 exact⟨_,_,rfl,Qr rfl (Ql rfl),rfl,X2⟩
theorem Ql9 {p0 r}(hm:Ug p0=some r){w:World}:
 Calls Tryz.prog 197 [.int .i64 p0].toArray w fun e w'=>∃ v,e=.returned v∧(v=.int .i64 r∧Gr w w'):=by
 unfold Ug at hm
 refine Xj 12 Tryz.func197 rfl rfl rfl<|qs 1 rfl<|qm rfl<|qd 1 rfl ?_
 refine qm rfl<|Qa<|Qh<|Xc<|Zv (α:=Nat × Int) (rg 3 8) (fun⟨n1,a2⟩=>[(3,.int .i64 a2)]) (fun⟨n1,a2⟩ wr=>(Qs (Qcl p0) n1 a2=some r)∧Kz [] w wr) (fun⟨n1,a2⟩=>n1) ⟨Qy,1⟩ ?_ ?_ ?_
 · exact Qi
 · exact⟨hm,Kz.refl _ _⟩
 clear hm;rintro⟨n1,a2⟩ w1 ⟨hm,K1⟩
 have z1:=K1.size
 have hb:=Zu hm;clear hm;obtain⟨n1,rfl,hm⟩:=hb
 generalize c:Qs (Qcl p0) n1=d at hm
 unfold Qcl at hm
 try dsimp only at hm
 refine Qh<|qs 5 rfl<|qn 2 rfl<|qv rfl (Kb (k:=.i64) (a:=a2) (b:=a2) rfl rfl)<|qm rfl ?_
 refine qv rfl (Zo (a:=Qb (a2*a2)) (b:=p0) rfl rfl)<|Qa<|Zq hm rfl (fun c1 hm=>?_) (fun c1 hm=>?_)
 · refine qu<|Xc<|qg 3 rfl<|qm rfl<|qv rfl (Xn (k:=.i64) (a:=a2) (b:=1) rfl rfl)<|qm rfl ?_
   refine Qj<|Xi ?_
   have K_2:Kz [] w w1:=K1
   subst c
   exact⟨rfl,⟨n1,Qb (a2+1)⟩,Qi,⟨hm,K_2⟩,Nat.lt_succ_self _⟩
 refine Zd<|Xh<|Xh<|Zc<|Xa<|qs 2 rfl ?_
 refine qn 2 rfl<|Qa<|Qp ?_
 have X3:=((Gr.refl w).kz K1)
 cases hm
 exact⟨_,_,rfl,Qr rfl (Ql rfl),rfl,X3⟩
theorem Qld {p0 p1 p2 r}(hm:Qcs p0 p1 p2=some r){w:World}:
 Calls Tryz.prog 181 [.agg (Qo.cs p0).toArray,.int .i64 p1,.int .i64 p2].toArray w fun e w'=>∃ v,e=.returned v∧(v=.int .i64 r∧Gr w w'):=by
 unfold Qcs at hm
 refine Xj 33 Tryz.func181 rfl rfl rfl<|qs 2 rfl<|qe rfl (Xq (cs:=Qo.cs p0) rfl rfl) ?_
 rintro _ w1 ⟨b1,rfl,m,c,G1⟩
 have z1:=G1.size
 have s:=c.lt
 refine qm rfl<|Qa<|Qh ?_
 have X3:=((Gr.refl w).trans G1)
 refine qj (β:=Bool) (rg 7 11) (fun a1=>[(17,.bool a1)]) (fun a1 wr=>(Oq p0 p1 p2 a1=some r)∧Kz [] w1 wr) ?_ ?_
 · refine qg 11 rfl<|qv rfl (Qg Kj rfl)<|qv rfl (Qf (v:=bv p0.Kind) Zb rfl c rfl)<|qv rfl (Jz (p:=p0.Kind) (q:=2#8) rfl rfl)<|Zm hm rfl (Qt rfl) (fun c3 hm=>?_) (fun c3 hm=>?_)
   · refine qn 7 rfl ?_
     refine Qj ?_
     exact⟨rfl,true,Qi,hm,Qw⟩
   refine qm rfl<|qv rfl (Xv (a:=p1) (b:=1) rfl rfl)<|qm rfl<|Zm hm rfl (Qt rfl) (fun c4 hm=>?_) (fun c4 hm=>?_)
   · refine qn 3 rfl<|Qj ?_
     exact⟨rfl,true,Qi,hm,Qw⟩
   refine qm rfl<|qv rfl (Xv (a:=p1) (b:=3) rfl rfl)<|qm rfl<|Qj ?_
   exact⟨rfl,(decide (p1=3)),Qi,hm,Qw⟩
 clear hm;rintro a1 w2 ⟨hm,K2⟩
 have z4:=K2.size
 unfold Oq at hm
 refine Zh hm rfl (fun c1 hm=>?_) (fun c1 hm=>?_)
 · refine qs 3 rfl<|qm rfl<|qv rfl (Qa1 rfl rfl)<|qm rfl<|Qa<|Qp ?_
   refine Xp ?_
   have X5:=(X3.kz K2)
   cases hm
   exact⟨_,_,rfl,Qr rfl (Ql rfl),rfl,X5⟩
 refine qu<|Qh<|Qh<|dw [([])] [] (.leaf [(0,10),(1,10),(2,10),(3,10),(4,10),(5,10),(6,0),(7,10),(8,10)]) ?_
 intro w3 G3 t
 refine Jp<|dh 0 rfl rfl (fun w hS=>Qg Ji rfl) ?_
 have B6:=((c.kz K2).gr G3)
 refine dh 0 rfl rfl (fun w hS=>Qf (v:=.int .i64 p0.Depth) Qe rfl (Bx.kp B6 hS) rfl)<|dm 0 rfl rfl<|dh 0 rfl rfl (fun w hS=>Js (k:=.i64) (a:=p0.Depth) (b:=p2) rfl rfl)<|dh 0 rfl rfl (fun w hS=>Qg Ji rfl)<|dh 0 rfl rfl (fun w hS=>Qf (v:=.int .i64 p0.Depth) Qe rfl (Bx.kp B6 hS) rfl) ?_
 obtain⟨x2,g,hm⟩:=Qc hm
 refine qz [] rfl (eC Qij rfl (Ql9 g)) ⟨fun _=>Qn,trivial⟩ ?_
 rintro _ w4 ⟨rfl,G4⟩
 have z7:=G4.size
 refine kG G4 ?_
 obtain⟨x3,h,hm⟩:=Qc hm
 have S8:=((Kp.refl ([]) w3).gr G4)
 refine qh 0 rfl rfl S8 (fun w hS=>Qda (a:=Qb (p0.Depth-p2)) (b:=x2) rfl rfl h)<|qh 0 rfl rfl S8 (fun w hS=>Xv (a:=x3) (b:=0) rfl rfl)<|Qa<|Zy hm rfl (fun c2 hm=>?_) (fun c2 hm=>?_)
 · refine qu<|qs 1 rfl<|qm rfl<|Qa<|Qp ?_
   have j:=(((X3.kz K2).trans G3).trans G4)
   cases hm
   exact⟨_,_,rfl,Qr rfl (Ql rfl),rfl,j⟩
 refine qs 5 rfl<|qe rfl (Kt [1,1,3] ic Qh5 rfl rfl (Vj rfl) rfl rfl rfl) ?_
 rintro x w5 ⟨y,n,d,G5⟩
 have z9:=G5.size
 have o:=d.lth
 refine qm rfl ?_
 obtain⟨y4,f,hm⟩:=Qc hm
 refine qv rfl (Jl (i:=p1) Tryz.underlying30 (Qe).siz rfl (Qk.rd d) rfl f)<|qv rfl (Zt (q:=0) (u:=.int .i64 y4) Qe rfl (Qk.rd d) f (by first|rfl|omega) rfl)<|qm rfl<|qb ?_
 have l:=((((X3.kz K2).trans G3).trans G4).trans G5)
 cases hm
 exact⟨_,_,rfl,Qr rfl (Ql rfl),rfl,l⟩
theorem Qv0 (p0:Qo)(p1:List (List (List Int)))(p2:Int)(p3:Int)(p4:Int)(p5:Int)(vp1:Value)(zp1 gp1 op1:Nat)(Fp1:List Nat)(r:Int)(hm:Qg2 p0 p1 p2 p3 p4 p5=some r)(w:World)(d:Xx (Hn (Pb 1 ic)) w zp1 gp1 op1 vp1 Fp1 p1)  :
 Calls Tryz.prog 196 [.agg (Qo.cs p0).toArray,vp1,.int .i64 p2,.int .i64 p3,.int .i64 p4,.int .i64 p5].toArray w fun e w'=>∃ v,e=.returned v∧(v=.int .i64 r∧Gr w w'):=by
 have bx:=d.flt
 have bz:=d.lth
 unfold Qg2 at hm
 refine Xj 86 Tryz.func196 rfl rfl rfl<|qs 2 rfl<|qe rfl (Xq (cs:=Qo.cs p0) rfl rfl) ?_
 rintro _ w1 ⟨b1,rfl,aF,s,G1⟩
 have z3:=G1.size
 have bA:=s.lt
 refine qm rfl<|Qa<|Qh<|qs 3 rfl<|qv rfl (Qg Kj rfl)<|qv rfl (Qf (v:=bv p0.Kind) Zb rfl s rfl) ?_
 refine qv rfl (Jz (p:=p0.Kind) (q:=1#8) rfl rfl)<|Qa<|Zq hm rfl (fun c1 hm=>?_) (fun c1 hm=>?_)
 · refine Qh<|dw [([])] [] (.leaf [(0,10),(1,10),(2,10),(3,10),(4,10),(5,10),(6,10),(7,10),(8,10),(9,10),(10,10),(11,10),(12,10),(13,10),(14,10),(15,10),(16,10),(17,10),(18,10),(19,10),(20,10),(21,10),(22,10),(23,10)]) ?_
   intro w2 G2 bB
   refine Jp<|dm 0 rfl rfl ?_
   obtain⟨y1,H,hm⟩:=Qc hm
   have B5:=((d.gr G1).gr G2)
   refine dh 0 rfl rfl (fun w hS=>Vu (i:=0) Tryz.underlying209 (Yn).siz rfl (Xx.kp B5 hS (.inr List.not_mem_nil) (fun _ _=>List.not_mem_nil)) rfl H) ?_
   obtain⟨bC,ak,bD,bE,bF,R6,al,Q6,bG⟩:=Ca B5 H
   have bH:=Q6.lth
   refine dh 0 rfl rfl (fun w hS=>Zt (c:=(fun p=>[p.2])) (q:=0) (u:=ak) Yn rfl (Rd.kp R6 hS (.inr List.not_mem_nil)) al (by first|rfl|omega) rfl)<|dm 0 rfl rfl<|dh 0 rfl rfl (fun w hS=>Js (k:=.i64) (a:=p3) (b:=1) rfl rfl) ?_
   obtain⟨y2,I,hm⟩:=Qc hm
   refine dh 0 rfl rfl (fun w hS=>Vu (i:=Qb (p3-1)) Tryz.underlying252 (Zp).siz rfl (Xx.kp Q6 hS (.inr List.not_mem_nil) (fun _ _=>List.not_mem_nil)) rfl I) ?_
   obtain⟨bI,am,bJ,bK,bL,R8,an,Q8,bM⟩:=Cb Q6 I
   have bN:=Q8.lth
   refine dh 0 rfl rfl (fun w hS=>Zt (c:=(fun p=>[p.2])) (q:=0) (u:=am) Zp rfl (Rd.kp R8 hS (.inr List.not_mem_nil)) an (by first|rfl|omega) rfl)<|dm 0 rfl rfl ?_
   obtain⟨y3,J,hm⟩:=Qc hm
   refine dh 0 rfl rfl (fun w hS=>Jl (i:=p5) Tryz.underlying30 (Qe).siz rfl (Rd.kp Q8 hS) rfl J)<|dh 0 rfl rfl (fun w hS=>Zt (q:=0) (u:=.int .i64 y3) Qe rfl (Rd.kp Q8 hS) J (by first|rfl|omega) rfl)<|dm 0 rfl rfl ?_
   obtain⟨y4,K,hm⟩:=Qc hm
   refine dh 0 rfl rfl (fun w hS=>Vu (i:=0) Tryz.underlying209 (Yn).siz rfl (Xx.kp B5 hS (.inr List.not_mem_nil) (fun _ _=>List.not_mem_nil)) rfl K) ?_
   obtain⟨aG,L,aH,aI,aJ,ao,M,t,aK⟩:=Ca B5 K
   have aL:=t.lth
   refine dh 0 rfl rfl (fun w hS=>Zt (c:=(fun p=>[p.2])) (q:=0) (u:=L) Yn rfl (Rd.kp ao hS (.inr List.not_mem_nil)) M (by first|rfl|omega) rfl)<|dm 0 rfl rfl<|dh 0 rfl rfl (fun w hS=>Js (k:=.i64) (a:=p3) (b:=1) rfl rfl) ?_
   obtain⟨y5,N,hm⟩:=Qc hm
   refine dh 0 rfl rfl (fun w hS=>Vu (i:=Qb (p3-1)) Tryz.underlying252 (Zp).siz rfl (Xx.kp t hS (.inr List.not_mem_nil) (fun _ _=>List.not_mem_nil)) rfl N) ?_
   obtain⟨aM,O,aN,aO,aP,ap,P,y,aQ⟩:=Cb t N
   have aR:=y.lth
   refine dh 0 rfl rfl (fun w hS=>Zt (c:=(fun p=>[p.2])) (q:=0) (u:=O) Zp rfl (Rd.kp ap hS (.inr List.not_mem_nil)) P (by first|rfl|omega) rfl)<|dm 0 rfl rfl<|dm 0 rfl rfl<|dh 0 rfl rfl (fun w hS=>Js (k:=.i64) (a:=p4) (b:=p5) rfl rfl) ?_
   obtain⟨y6,Q,hm⟩:=Qc hm
   refine dh 0 rfl rfl (fun w hS=>Jl (i:=Qb (p4-p5)) Tryz.underlying30 (Qe).siz rfl (Rd.kp y hS) rfl Q)<|dh 0 rfl rfl (fun w hS=>Zt (q:=0) (u:=.int .i64 y6) Qe rfl (Rd.kp y hS) Q (by first|rfl|omega) rfl)<|dh 0 rfl rfl (fun w hS=>Xn (k:=.i64) (a:=y3) (b:=y6) rfl rfl)<|dm 0 rfl rfl<|Qa<|Qp<|Xp ?_
   have aq:=(((Gr.refl w).trans G1).trans G2)
   cases hm
   exact⟨_,_,rfl,Qr rfl (Ql rfl),rfl,aq⟩
 refine qu<|Qh ?_
 have R:=((Gr.refl w).trans G1)
 refine qj (β:=Bool) (rg 39 7) (fun a7=>[(45,.bool a7)]) (fun a7 wr=>(Qd0 p0 p1 p2 p3 p4 p5 a7=some r)∧Kz [] w1 wr) ?_ ?_
 · refine qg 7 rfl<|qm rfl<|qv rfl (Ky (a:=p5) (b:=0) rfl rfl)<|Jo hm rfl (Qt rfl) (fun c3 hm=>?_) (fun c3 hm=>?_)
   · refine qn 4 rfl<|Qj ?_
     exact⟨rfl,false,Qi,hm,Qw⟩
   refine qn 2 rfl<|qv rfl (Zo (a:=p5) (b:=p4) rfl rfl)<|qm rfl<|Qj ?_
   exact⟨rfl,(decide (p5<p4)),Qi,hm,Qw⟩
 clear hm;rintro a7 w3 ⟨hm,K3⟩
 have bO:=K3.size
 unfold Qd0 at hm
 refine Wz hm rfl (fun c2 hm=>?_) (fun c2 hm=>?_)
 · refine qu<|qs 15 rfl<|qm rfl ?_
   have ar:=(s.kz K3)
   refine qv rfl (Xm Zj rfl ar rfl)<|qn 2 rfl ?_
   obtain⟨au,S,hm⟩:=Qc hm
   refine qe rfl (eC Qie rfl (Qld S)) ?_
   rintro _ w6 ⟨rfl,G6⟩
   have bP:=G6.size
   obtain⟨bQ,g,hm⟩:=Qc hm
   have T:=(((d.gr G1).kz K3 Qn (fun x hx=>Qn)).gr G6)
   refine qv rfl (Vu (i:=au) Tryz.underlying209 (Yn).siz rfl T rfl g) ?_
   obtain⟨aS,U,aT,aU,aV,av,V,z,aW⟩:=Ca T g
   have aX:=z.lth
   refine qv rfl (Zt (c:=(fun p=>[p.2])) (q:=0) (u:=U) Yn rfl av V (by first|rfl|omega) rfl)<|qm rfl<|qv rfl (Js (k:=.i64) (a:=p3) (b:=1) rfl rfl) ?_
   obtain⟨bR,h,hm⟩:=Qc hm
   refine qv rfl (Vu (i:=Qb (p3-1)) Tryz.underlying252 (Zp).siz rfl z rfl h) ?_
   obtain⟨aY,W,aZ,a0,a1,aw,X,A,a2⟩:=Cb z h
   have a3:=A.lth
   refine qv rfl (Zt (c:=(fun p=>[p.2])) (q:=0) (u:=W) Zp rfl aw X (by first|rfl|omega) rfl)<|qm rfl ?_
   obtain⟨ax,j,hm⟩:=Qc hm
   refine qv rfl (Jl (i:=p4) Tryz.underlying30 (Qe).siz rfl A rfl j)<|qv rfl (Zt (q:=0) (u:=.int .i64 ax) Qe rfl A j (by first|rfl|omega) rfl)<|qm rfl<|Qa<|Qp ?_
   have ay:=((R.kz K3).trans G6)
   cases hm
   exact⟨_,_,rfl,Qr rfl (Ql rfl),rfl,ay⟩
 refine Qh<|dw [([])] [] (.leaf [(0,10),(1,10),(2,10),(3,10),(4,10),(5,10),(6,10),(7,10),(8,10),(9,10),(10,10),(11,10),(12,10),(13,10),(14,10),(15,10),(16,10),(17,10),(18,10),(19,10),(20,10),(21,10),(22,10),(23,10),(24,0),(25,10),(26,10)]) ?_
 intro w4 G4 bS
 refine Jp<|dm 0 rfl rfl ?_
 obtain⟨y8,Y,hm⟩:=Qc hm
 have f:=(((d.gr G1).kz K3 Qn (fun x hx=>Qn)).gr G4)
 refine dh 0 rfl rfl (fun w hS=>Vu (i:=0) Tryz.underlying209 (Yn).siz rfl (Xx.kp f hS (.inr List.not_mem_nil) (fun _ _=>List.not_mem_nil)) rfl Y) ?_
 obtain⟨a4,Z,a5,a6,a8,az,aa,B,a9⟩:=Ca f Y
 have ba:=B.lth
 refine dh 0 rfl rfl (fun w hS=>Zt (c:=(fun p=>[p.2])) (q:=0) (u:=Z) Yn rfl (Rd.kp az hS (.inr List.not_mem_nil)) aa (by first|rfl|omega) rfl)<|dm 0 rfl rfl<|dh 0 rfl rfl (fun w hS=>Js (k:=.i64) (a:=p3) (b:=1) rfl rfl) ?_
 obtain⟨y9,ab,hm⟩:=Qc hm
 refine dh 0 rfl rfl (fun w hS=>Vu (i:=Qb (p3-1)) Tryz.underlying252 (Zp).siz rfl (Xx.kp B hS (.inr List.not_mem_nil) (fun _ _=>List.not_mem_nil)) rfl ab) ?_
 obtain⟨bb,ac,bc,bd,be,aA,ad,C,bf⟩:=Cb B ab
 have bg:=C.lth
 refine dh 0 rfl rfl (fun w hS=>Zt (c:=(fun p=>[p.2])) (q:=0) (u:=ac) Zp rfl (Rd.kp aA hS (.inr List.not_mem_nil)) ad (by first|rfl|omega) rfl)<|dm 0 rfl rfl ?_
 obtain⟨D,l,hm⟩:=Qc hm
 refine dh 0 rfl rfl (fun w hS=>Jl (i:=p5) Tryz.underlying30 (Qe).siz rfl (Rd.kp C hS) rfl l)<|dh 0 rfl rfl (fun w hS=>Zt (q:=0) (u:=.int .i64 D) Qe rfl (Rd.kp C hS) l (by first|rfl|omega) rfl)<|dm 0 rfl rfl ?_
 obtain⟨bT,m,hm⟩:=Qc hm
 refine dh 0 rfl rfl (fun w hS=>Vu (i:=0) Tryz.underlying209 (Yn).siz rfl (Xx.kp f hS (.inr List.not_mem_nil) (fun _ _=>List.not_mem_nil)) rfl m) ?_
 obtain⟨bh,ae,bi,bj,bk,aB,af,E,bm⟩:=Ca f m
 have bo:=E.lth
 refine dh 0 rfl rfl (fun w hS=>Zt (c:=(fun p=>[p.2])) (q:=0) (u:=ae) Yn rfl (Rd.kp aB hS (.inr List.not_mem_nil)) af (by first|rfl|omega) rfl)<|dm 0 rfl rfl<|dh 0 rfl rfl (fun w hS=>Js (k:=.i64) (a:=p3) (b:=1) rfl rfl) ?_
 obtain⟨bU,n,hm⟩:=Qc hm
 refine dh 0 rfl rfl (fun w hS=>Vu (i:=Qb (p3-1)) Tryz.underlying252 (Zp).siz rfl (Xx.kp E hS (.inr List.not_mem_nil) (fun _ _=>List.not_mem_nil)) rfl n) ?_
 obtain⟨bp,ag,bq,br,bs,aC,ah,F,bu⟩:=Cb E n
 have bw:=F.lth
 refine dh 0 rfl rfl (fun w hS=>Zt (c:=(fun p=>[p.2])) (q:=0) (u:=ag) Zp rfl (Rd.kp aC hS (.inr List.not_mem_nil)) ah (by first|rfl|omega) rfl)<|dm 0 rfl rfl<|dm 0 rfl rfl<|dh 0 rfl rfl (fun w hS=>Js (k:=.i64) (a:=p4) (b:=p5) rfl rfl) ?_
 obtain⟨G,o,hm⟩:=Qc hm
 refine dh 0 rfl rfl (fun w hS=>Jl (i:=Qb (p4-p5)) Tryz.underlying30 (Qe).siz rfl (Rd.kp F hS) rfl o)<|dh 0 rfl rfl (fun w hS=>Zt (q:=0) (u:=.int .i64 G) Qe rfl (Rd.kp F hS) o (by first|rfl|omega) rfl)<|dh 0 rfl rfl (fun w hS=>Xn (k:=.i64) (a:=D) (b:=G) rfl rfl)<|dm 0 rfl rfl ?_
 obtain⟨aD,ai,hm⟩:=Qc hm
 refine qz [] rfl (eC Qii rfl (Qlg ai)) ⟨fun _=>Qn,trivial⟩ ?_
 rintro _ w5 ⟨rfl,G5⟩
 have bV:=G5.size
 refine kG G5 ?_
 have aj:=((Kp.refl ([]) w4).gr G5)
 refine qh 0 rfl rfl aj (fun w hS=>Xn (k:=.i64) (a:=Qb (D+G)) (b:=aD) rfl rfl)<|dn 0 rfl rfl aj<|qb ?_
 have aE:=(((R.kz K3).trans G4).trans G5)
 cases hm
 exact⟨_,_,rfl,Qr rfl (Ql rfl),rfl,aE⟩
theorem Qle (p0:Qo)(p1:List (List (List Int)))(p2:Int)(p3:Int)(p4:Int)(vp1:Value)(zp1 gp1 op1:Nat)(Fp1:List Nat)(r:Int × Int)(hm:Qct p0 p1 p2 p3 p4=some r)(w:World)(d:Xx (Hn (Pb 1 ic)) w zp1 gp1 op1 vp1 Fp1 p1)  :
 Calls Tryz.prog 180 [.agg (Qo.cs p0).toArray,vp1,.int .i64 p2,.int .i64 p3,.int .i64 p4].toArray w fun e w'=>∃ v,e=.returned v∧(v=.tuple [.int .i64 r.1,.int .i64 r.2].toArray∧Gr w w'):=by
 have l:=d.flt
 have m:=d.lth
 unfold Qct at hm
 refine Xj 46 Tryz.func180 rfl rfl rfl<|qs 3 rfl<|qe rfl (Xq (cs:=Qo.cs p0) rfl rfl) ?_
 rintro _ w1 ⟨b1,rfl,i,f,G1⟩
 have z3:=G1.size
 have n:=f.lt
 refine qn 2 rfl<|qd 5 rfl<|qm rfl<|qv rfl (Js (k:=.i64) (a:=p3) (b:=1) rfl rfl) ?_
 refine qv rfl (Ef Qdy rfl) ?_
 obtain⟨nn1,hnn1,hm⟩:=Qc hm
 refine qv rfl (Hi (a:=1) (b:=(un (wd (Qb (p3-1))))) rfl rfl hnn1)<|qm rfl<|qd 2 rfl<|qn 2 rfl ?_
 refine Qa<|Qh<|qs 5 rfl<|qn 2 rfl<|qv rfl (Js (k:=.i64) (a:=p4) (b:=Xr 1 nn1) rfl rfl) ?_
 refine qv rfl (Qa1 rfl rfl)<|qm rfl<|Qa<|Xc ?_
 have X5:=((Gr.refl w).trans G1)
 have B6:=(d.gr G1)
 refine Zv (α:=Nat × Int × Int × Int) ([13,14,15,16]++rg 25 19) (fun⟨n1,a5,a6,a7⟩=>[(13,.int .i64 a5),(14,.int .i64 a6),(15,.int .i64 a7)]) (fun⟨n1,a5,a6,a7⟩ wr=>(Qs (Qcu p0 p1 p2 p3 p4 nn1) n1 (a5,a6,a7)=some r)∧Kz [] w1 wr) (fun⟨n1,a5,a6,a7⟩=>n1) ⟨Qy,(-1),(-1),Vp 0 (Qb (p4-(Xr 1 nn1)))⟩ ?_ ?_ ?_
 · exact Qi
 · exact⟨hm,Kz.refl _ _⟩
 clear hm;rintro⟨n1,a5,a6,a7⟩ w2 ⟨hm,K2⟩
 have z7:=K2.size
 have hb:=Zu hm;clear hm;obtain⟨n1,rfl,hm⟩:=hb
 generalize c:Qs (Qcu p0 p1 p2 p3 p4 nn1) n1=j at hm
 unfold Qcu at hm
 try dsimp only at hm
 refine Qh<|qs 5 rfl<|qn 3 rfl<|qv rfl (Qnh rfl rfl) ?_
 refine qv rfl (Yr (a:=a7) (b:=Mn p4 (Xr 1 nn1)) rfl rfl)<|Qa<|Zy hm rfl (fun c1 hm=>?_) (fun c1 hm=>?_)
 · refine Zd<|Xh<|Xh<|Zc<|Xa<|qs 4 rfl ?_
   refine qn 4 rfl<|Qa<|Qp ?_
   have g:=(X5.kz K2)
   cases hm
   exact⟨_,_,rfl,Jk rfl (Ql rfl) (Ql rfl),rfl,g⟩
 refine qu<|Qh<|Xc<|qs 8 rfl ?_
 have B8:=(f.kz K2)
 refine qv rfl (Xm Zj rfl B8 rfl)<|qn 5 rfl ?_
 have B9:=(B6.kz K2 Qn (fun x hx=>Qn))
 obtain⟨x8,h,hm⟩:=Qc hm
 refine qe rfl (eC Qpp rfl (Qv0 p0 p1 p2 p3 p4 a7 _ _ _ _ _ _ h _ B9)) ?_
 rintro _ w3 ⟨rfl,G3⟩
 have o:=G3.size
 refine qm rfl<|qd 3 rfl<|qn 2 rfl<|qv rfl (Ky (a:=x8) (b:=a5) rfl rfl) ?_
 refine Qa<|Zy hm rfl (fun c2 hm=>?_) (fun c2 hm=>?_)
 · refine Jb<|Xi<|Xa<|qg 3 rfl<|qm rfl<|qv rfl (Xn (k:=.i64) (a:=a7) (b:=1) rfl rfl)<|qm rfl ?_
   refine Qj ?_
   have K_12:Kz [] w1 w3:=(K2.gr G3)
   subst c
   exact⟨rfl,⟨n1,a5,a6,Qb (a7+1)⟩,Qi,⟨hm,K_12⟩,Nat.lt_succ_self _⟩
 refine qg 4 rfl<|qn 4 rfl<|Qj<|Xi ?_
 refine Xa<|qg 3 rfl<|qm rfl<|qv rfl (Xn (k:=.i64) (a:=a7) (b:=1) rfl rfl)<|qm rfl<|Qj ?_
 have K_11:Kz [] w1 w3:=(K2.gr G3)
 subst c
 exact⟨rfl,⟨n1,x8,a7,Qb (a7+1)⟩,Qi,⟨hm,K_11⟩,Nat.lt_succ_self _⟩
theorem Qlc (p0:Qo)  (r:List (List (List Int)))(hm:Ut p0=some r)(w:World)   :
 Calls Tryz.prog 136 [.agg (Qo.cs p0).toArray].toArray w fun e w'=>∃ v,e=.returned v∧(∃ (ur0_s:Value) (zr0_s:Nat) (gr0_s:Nat) (Fr0_s:List Nat),v=ur0_s∧Xw (Hn (Pb 1 ic)) w' zr0_s gr0_s 252 ur0_s Fr0_s r∧Xb (zr0_s=0∨w.heap.size≤gr0_s)∧(∀ x∈Fr0_s,Pv [] [] w.heap.size x)∧Gr w w'):=by
 unfold Ut at hm
 refine Xj 90 Tryz.func136 rfl rfl rfl<|qs 2 rfl<|qe rfl (Xq (cs:=Qo.cs p0) rfl rfl) ?_
 rintro _ w1 ⟨b1,rfl,bw,am,G1⟩
 have z1:=G1.size
 have b3:=am.lt
 refine qm rfl<|qd 5 rfl<|qv rfl (Qg Kj rfl)<|qv rfl (Qf (v:=bv p0.Kind) Zb rfl am rfl) ?_
 obtain⟨x1,a7,hm⟩:=Qc hm
 refine qe rfl (eC Qpl rfl (Quz a7)) ?_
 rintro _ w2 ⟨rfl,G2⟩
 have z3:=G2.size
 obtain⟨l2,a8,hm⟩:=Qc hm
 have X4:=(((Gr.refl w).trans G1).trans G2)
 have B5:=(am.gr G2)
 refine qe rfl (Qr0 (e2:=252) (e1:=30) (e0:=3) Qnz Qxq rfl a8 (by decide)) ?_
 rintro y w3 ⟨d,aB,aC,G3⟩
 have z6:=G3.size
 have tn7:Xb (1=0∨w2.heap.size≤d):=⟨.inr aB⟩
 have b4:=aC.lth
 refine qm rfl<|Qa<|Qh<|qs 1 rfl<|qm rfl<|Qa ?_
 refine Xc ?_
 have K_9:Kz [] w2 w3:=((Kz.refl [] w2).gr G3)
 have b5:=K_9.size
 refine Zv (α:=Nat × List (List (List Int)) × Int) (rg 3 5++rg 12 77) (fun⟨n1,a5,a6⟩=>[(3,y),(4,.int .i64 a6)]) (fun⟨n1,a5,a6⟩ wr=>(Qs (Qco p0) n1 (a5,a6)=some r)∧Jr 252 30 3 wr w2.heap.size 1 d y a5∧Xb (1=0∨w2.heap.size≤d)∧Kz [] w2 wr) (fun⟨n1,a5,a6⟩=>n1) ⟨Qy,l2,0⟩ ?_ ?_ ?_
 · exact Qi
 · exact⟨hm,aC,⟨(Xe (A:=(fun x=>w2.heap.size≤x)) tn7)⟩,K_9⟩
 clear hm;rintro⟨n1,a5,a6⟩ w4 ⟨hm,D,P,K4⟩
 have b6:=K4.size
 have bx:=D.lth
 have hb:=Zu hm;clear hm;obtain⟨n1,rfl,hm⟩:=hb
 generalize an:Qs (Qco p0) n1=J at hm
 unfold Qco at hm
 try dsimp only at hm
 refine Qh<|qs 4 rfl<|qm rfl<|qv rfl (Qg Ji rfl) ?_
 have ba:=(B5.kz K4)
 refine qv rfl (Qf (v:=.int .i64 p0.Depth) Qe rfl ba rfl)<|qv rfl (Yr (a:=a6) (b:=p0.Depth) rfl rfl)<|Qa<|Zy hm rfl (fun c1 hm=>?_) (fun c1 hm=>?_)
 · refine Zd<|Xh<|Xh<|Zc<|Xa<|qs 2 rfl ?_
   refine qn 2 rfl<|Qa<|Qp ?_
   obtain⟨Fz91,Oz91,pz91⟩:=Jr.ownD D
   have bz:=Oz91.flt
   have bA:=Oz91.lth
   have bb:=(X4.kz K4)
   cases hm
   exact⟨_,_,rfl,Qr rfl (Ql rfl),y,1,d,Fz91,rfl,Oz91,⟨(Xe (A:=(fun x=>w.heap.size≤x)) P)⟩,(Yj (A:=(Pv [] [] w.heap.size)) pz91 Vo Yl (fun x hx=>.inr (.inr (by omega)))),bb⟩
 refine qu<|Qh<|Xc<|Qh<|qs 1 rfl ?_
 refine qm rfl<|Qa<|Xc<|Zv (α:=Nat × List (List (List Int)) × Int) ([3,5]++rg 18 20) (fun⟨n2,a9,n⟩=>[(3,y),(5,.int .i64 n)]) (fun⟨n2,a9,n⟩ wr=>(Qs (Qcp p0 a6 J) n2 (a9,n)=some r)∧Jr 252 30 3 wr w2.heap.size 1 d y a9∧Xb (1=0∨w2.heap.size≤d)∧Kz [] w2 wr) (fun⟨n2,a9,n⟩=>n2) ⟨Qy,a5,0⟩ ?_ ?_ ?_
 · exact Qi
 · exact⟨hm,D,⟨(Xe (A:=(fun x=>w2.heap.size≤x)) P)⟩,K4⟩
 clear hm;rintro⟨n2,a9,n⟩ w5 ⟨hm,z,Q,K5⟩
 have b7:=K5.size
 have bB:=z.lth
 have hb:=Zu hm;clear hm;obtain⟨n2,rfl,hm⟩:=hb
 generalize ao:Qs (Qcp p0 a6 J) n2=bC at hm
 unfold Qcp at hm
 try dsimp only at hm
 refine Qh<|qs 4 rfl<|qn 2 rfl ?_
 obtain⟨Ft16,Rt16,pt16,lf16⟩:=Jr.rdD z
 refine qv rfl (Hq (l:=a9) Tryz.underlying209 rfl Rt16)<|qv rfl (Zo (a:=n) (b:=(a9.length:Int)) rfl rfl)<|Qa<|Zq hm rfl (fun c2 hm=>?_) (fun c2 hm=>?_)
 · refine qu<|Qh<|Xc ?_
   obtain⟨bc,aD,hm⟩:=Qc hm
   obtain⟨hs17,qs17,vi17,zi17,gi17,Oo17,hi17,Om17,ql17,na17,aE,neC17,cl17⟩:=Jr.app z aD
   have R:=Oo17.lth
   have ac:=Om17.lth
   refine dw [([]++zf zi17 gi17++zf 1 d),([]++zf zi17 gi17)] [(14,[1])] (.leaf [(0,10),(1,10),(2,10),(3,10),(4,11),(5,11),(6,10),(7,10),(8,10),(9,10),(10,0),(11,0),(12,0),(13,11),(14,0)]) ?_
   intro w6 G6 b8
   refine Jp<|dn 0 rfl rfl (Kp.refl ([]++zf zi17 gi17++zf 1 d) w6)<|dn 0 rfl rfl (Kp.refl ([]++zf zi17 gi17++zf 1 d) w6)<|dn 0 rfl rfl (Kp.refl ([]++zf zi17 gi17++zf 1 d) w6)<|dn 0 rfl rfl (Kp.refl ([]++zf zi17 gi17++zf 1 d) w6) ?_
   have V:=(Oo17.gr G6)
   refine qh 1 rfl rfl (Kp.refl ([]++zf zi17 gi17) w6) (fun w hS=>Jl (l:=hs17) (c:=Jv) (i:=n) Tryz.underlying209 (Yn).siz rfl (Qk.rd (Qk.kp V hS (Qd ((Qd neC17.o):1=0∨zi17=0∨d≠gi17)))) rfl hi17)<|qh 1 rfl rfl (Kp.refl ([]++zf zi17 gi17) w6) (fun w hS=>Zt (c:=Jv) (q:=0) (u:=vi17) Yn rfl (Qk.rd (Qk.kp V hS (Qd ((Qd neC17.o):1=0∨zi17=0∨d≠gi17)))) hi17 (by first|rfl|omega) rfl)<|dn 0 rfl rfl (Kp.refl ([]++zf zi17 gi17++zf 1 d) w6)<|qh 0 rfl rfl (Kp.refl ([]++zf zi17 gi17++zf 1 d) w6) (fun w hS=>Ef Qdy rfl) ?_
   obtain⟨nn12,hnn12,hm⟩:=Qc hm
   refine qh 0 rfl rfl (Kp.refl ([]++zf zi17 gi17++zf 1 d) w6) (fun w hS=>Hi (a:=1) (b:=(un (wd a6))) rfl rfl hnn12)<|qh 0 rfl rfl (Kp.refl ([]++zf zi17 gi17++zf 1 d) w6) (fun w hS=>Xn (k:=.i64) (a:=1) (b:=Xr 1 nn12) rfl rfl) ?_
   obtain⟨bd,aF,hm⟩:=Qc hm
   refine qz [] rfl (Qeh (c:=ic) (a:=0) Fj Dm rfl ⟨rfl,rfl⟩ rfl aF (by decide)) ⟨fun _=>Qn,fun _=>Qn,trivial⟩ ?_
   rintro ap w7 ⟨aq,bD,W,G7⟩
   have b9:=G7.size
   have ad:=W.lth
   refine kG G7<|qz [] rfl (Kt [ap] Jv Qog rfl (Qjb rfl (Qk.oneB W) rfl rfl) (Qs0 _ (Qk.oneB W)) rfl rfl rfl) ⟨fun _=>Qn,fun _=>Qn,trivial⟩ ?_
   rintro ca w8 ⟨cb,bE,aG,G8⟩
   have cc:=G8.size
   have bF:=aG.lth
   refine kG G8 ?_
   have Y1:=Gr.trans (Gr.trans G6 G7) G8
   have be:=(Om17.gr Y1)
   obtain⟨cd,aH,hm⟩:=Qc hm
   obtain⟨ha26,rfl⟩:=Qny (u:=ap) aH ql17
   refine qz [(zi17,gi17)] rfl (Ha (l:=qs17) (m:=[ap]) (c:=Jv) Qo0 rfl rfl be (Qk.rd aG) ha26 (by decide)) ⟨fun _=>(Qd (Qn:zi17=0∨(gi17=d∧1≠0)∨(gi17=gi17∧zi17≠0)∨w6.heap.size≤gi17)),fun _=>(Qd (Qn:zi17=0∨(gi17=d∧1≠0)∨(gi17=gi17∧zi17≠0)∨w6.heap.size≤gi17)),trivial⟩ ?_
   rintro aI w9 ⟨ce,cf,X,E,cg,Y⟩
   have ch:=E.size
   refine⟨Kz.ofKa E,?_⟩
   have Y2:=Gr.trans G7 G8
   have bf:=(((Kp.refl ([]++zf zi17 gi17) w6).gr Y2).ka E (Qd (Qn:zi17=0∨(gi17=d∧1≠0)∨(gi17=gi17∧zi17≠0)∨w6.heap.size≤gi17)))
   refine qh 1 rfl rfl bf (fun w hS=>Jl (l:=hs17) (c:=Jv) (i:=n) Tryz.underlying209 (Yn).siz rfl (Qk.rd (Qk.kp V hS (Qd ((Qd neC17.o):1=0∨zi17=0∨d≠gi17)))) rfl hi17) ?_
   have aJ:=((V.gr Y2).ka E (Qd ((Qd neC17.o):1=0∨zi17=0∨d≠gi17)))
   have bG:=Qk.z1 (c:=Jv) aJ hi17
   refine qz [(1,d)] rfl (Yt (i:=n) (q:=0) (a':=aI) (vs:=[aI]) (c:=Jv) (Yn).siz rfl rfl (Qhb (Qk.oneB X)) rfl (by simp[Zx,(Qk.oneB X)]) aJ hi17 (by first|rfl|omega) rfl rfl ⟨rfl,(by simp[Jv,Zx,(Qk.oneB X)])⟩) ⟨fun _=>(Vt (Qn:1=0∨(d=d∧1≠0)∨(d=gi17∧zi17≠0)∨w6.heap.size≤d) (Qn:1=0∨(d=d∧1≠0)∨(d=gi17∧zi17≠0)∨w6.heap.size≤d) (Qn:1=0∨(d=d∧1≠0)∨(d=gi17∧zi17≠0)∨w6.heap.size≤d) (Qn:1=0∨(d=d∧1≠0)∨(d=gi17∧zi17≠0)∨w6.heap.size≤d)),nofun,trivial⟩ ?_
   rintro _ ar ⟨aK,L⟩
   have ci:=L.size
   refine kM L ?_
   have Kf17:Kz [(1,d),(zi17,gi17)] w5 ar:=((((Kz.refl _ w5).gr Y1).ka E (Qd (Qn:zi17=0∨(gi17=d∧1≠0)∨(gi17=gi17∧zi17≠0)∨w5.heap.size≤gi17))).md L (Qd (Qn:1=0∨(d=d∧1≠0)∨(d=gi17∧zi17≠0)∨w5.heap.size≤d)))
   have bg:=(((W.gr G8).ka E (Qd ((.inr (Qd ac.o)):1=0∨zi17=0∨aq≠gi17))).md L (Qd ((.inr (Qd R.o)):1=0∨1=0∨aq≠d)))
   have bh:=(X.md L (Qd (Kc (A:=(fun x=>1=0∨x≠d)) Y (Qd neC17.o) (fun x hx=>(Qd R.o)))))
   have ae:=cl17 _ _ _ _ _ _ _ Kf17.size (Qrj Kf17) (by omega) (by have:=ad.o;omega) bg bh ⟨(by have:=Y.o;omega)⟩ ⟨(Kc (A:=(fun x=>1=0∨x≠aq)) Y (Ki (.inr (Qd ac.o))) (fun x hx=>(Qd ad.o)))⟩ ⟨(Kc (A:=(fun x=>1=0∨x≠d)) Y (Qd neC17.o) (fun x hx=>(Qd R.o)))⟩ aK (by omega)
   have K_34:Kz [] w2 ar:=(((((Kz.refl [] w2).kz K5).gr Y1).ka E (Qd (Xe (A:=(fun x=>w2.heap.size≤x)) na17))).md L (Qd (Xe (A:=(fun x=>w2.heap.size≤x)) aE)))
   have cj:=K_34.size
   have bH:=ae.lth
   refine Qj<|Xi<|Xa<|qg 3 rfl<|qm rfl<|qv rfl (Xn (k:=.i64) (a:=n) (b:=1) rfl rfl)<|qm rfl ?_
   refine Qj ?_
   have K_37:Kz [] w2 ar:=(Kz.kz (Kz.refl _ _) K_34)
   subst ao
   exact⟨rfl,⟨n2,a9.set n.toNat (bc++[bd]),Qb (n+1)⟩,Qi,⟨hm,ae,⟨(Xe (A:=(fun x=>w2.heap.size≤x)) Q)⟩,K_37⟩,Nat.lt_succ_self _⟩
 refine Zd<|Xh<|Xh<|Zc<|Xa<|qs 1 rfl ?_
 refine qm rfl<|Qa<|Xc<|Zv (α:=Nat × List (List (List Int)) × Int) ([3,6,7]++rg 38 51) (fun⟨n3,B,g⟩=>[(3,y),(6,.int .i64 g)]) (fun⟨n3,B,g⟩ wr=>(Qs (Qcq p0 a6 J) n3 (B,g)=some r)∧Jr 252 30 3 wr w2.heap.size 1 d y B∧Xb (1=0∨w2.heap.size≤d)∧Kz [] w2 wr) (fun⟨n3,B,g⟩=>n3) ⟨Qy,a9,0⟩ ?_ ?_ ?_
 · exact Qi
 · exact⟨hm,z,⟨(Xe (A:=(fun x=>w2.heap.size≤x)) Q)⟩,K5⟩
 clear hm;rintro⟨n3,B,g⟩ bi ⟨hm,p,K,au⟩
 have ck:=au.size
 have bI:=p.lth
 have hb:=Zu hm;clear hm;obtain⟨n3,rfl,hm⟩:=hb
 generalize av:Qs (Qcq p0 a6 J) n3=af at hm
 unfold Qcq at hm
 try dsimp only at hm
 refine Qh<|qs 4 rfl<|qn 2 rfl ?_
 obtain⟨Ft40,Rt40,pt40,lf40⟩:=Jr.rdD p
 refine qv rfl (Hq (l:=B) Tryz.underlying209 rfl Rt40)<|qv rfl (Zo (a:=g) (b:=(B.length:Int)) rfl rfl)<|Qa<|Zy hm rfl (fun c3 hm=>?_) (fun c3 hm=>?_)
 · refine Zd<|Xh<|Xh<|Zc<|Xi<|Xa<|qg 3 rfl ?_
   refine qm rfl<|qv rfl (Xn (k:=.i64) (a:=a6) (b:=1) rfl rfl)<|qm rfl<|Qj ?_
   have K_90:Kz [] w2 bi:=(Kz.kz (Kz.refl _ _) au)
   subst an
   exact⟨rfl,⟨n1,B,Qb (a6+1)⟩,Qi,⟨hm,p,⟨(Xe (A:=(fun x=>w2.heap.size≤x)) K)⟩,K_90⟩,Nat.lt_succ_self _⟩
 refine qu<|Qh<|Xc<|qs 1 rfl<|qm rfl ?_
 refine Qa<|Xc<|Zv (α:=Nat × List (List (List Int)) × Int) ([3,7]++rg 44 45) (fun⟨n4,t,f⟩=>[(3,y),(7,.int .i64 f)]) (fun⟨n4,t,f⟩ wr=>(Qs (Qcr p0 a6 g af) n4 (t,f)=some r)∧Jr 252 30 3 wr w2.heap.size 1 d y t∧Xb (1=0∨w2.heap.size≤d)∧Kz [] w2 wr) (fun⟨n4,t,f⟩=>n4) ⟨Qy,B,0⟩ ?_ ?_ ?_
 · exact Qi
 · exact⟨hm,p,⟨(Xe (A:=(fun x=>w2.heap.size≤x)) K)⟩,au⟩
 clear hm;rintro⟨n4,t,f⟩ aL ⟨hm,s,C,F⟩
 have cl:=F.size
 have bJ:=s.lth
 have hb:=Zu hm;clear hm;obtain⟨n4,rfl,hm⟩:=hb
 generalize S:Qs (Qcr p0 a6 g af) n4=aM at hm
 unfold Qcr at hm
 try dsimp only at hm
 refine Qh<|qs 5 rfl<|qn 2 rfl<|qv rfl (Ef Qdy rfl) ?_
 obtain⟨nn23,hnn23,hm⟩:=Qc hm
 refine qv rfl (Hi (a:=1) (b:=(un (wd a6))) rfl rfl hnn23)<|qv rfl (Yr (a:=f) (b:=Xr 1 nn23) rfl rfl)<|Qa<|Zy hm rfl (fun c4 hm=>?_) (fun c4 hm=>?_)
 · refine Zd<|Xh<|Xh<|Zc<|Xi<|Xa<|qg 3 rfl ?_
   refine qm rfl<|qv rfl (Xn (k:=.i64) (a:=g) (b:=1) rfl rfl)<|qm rfl<|Qj ?_
   have K_89:Kz [] w2 aL:=(Kz.kz (Kz.refl _ _) F)
   subst av
   exact⟨rfl,⟨n3,t,Qb (g+1)⟩,Qi,⟨hm,s,⟨(Xe (A:=(fun x=>w2.heap.size≤x)) C)⟩,K_89⟩,Nat.lt_succ_self _⟩
 refine qu<|Qh<|Xc ?_
 have cm:=(X4.kz F)
 refine qj (β:=Bool) (rg 51 6) (fun Z=>[(56,.bool Z)]) (fun Z wr=>(Qcn p0 a6 g t f aM Z=some r)∧Kz [] aL wr) ?_ ?_
 · refine qg 6 rfl<|qm rfl<|qv rfl (Xv (a:=f) (b:=0) rfl rfl)<|Zm hm rfl (Qt rfl) (fun c6 hm=>?_) (fun c6 hm=>?_)
   · refine qn 3 rfl<|Qj ?_
     exact⟨rfl,true,Qi,hm,Qw⟩
   refine qm rfl<|qv rfl (Xv (a:=a6) (b:=0) rfl rfl)<|qm rfl<|Qj ?_
   exact⟨rfl,(decide (a6=0)),Qi,hm,Qw⟩
 clear hm;rintro Z M ⟨hm,G⟩
 have cn:=G.size
 unfold Qcn at hm
 refine Zh hm rfl (fun c5 hm=>?_) (fun c5 hm=>?_)
 · have aN:=(Jr.kz s G)
   obtain⟨bj,aO,hm⟩:=Qc hm
   obtain⟨bk,aP,hm⟩:=Qc hm
   obtain⟨Ft46,Rt46,pt46,lf46⟩:=Jr.rdD aN
   obtain⟨hs46,qs46,vi46,gi46,u46r,b46r,Ro46,hi46,Rm46,ag,Or46,ah,neA46,neB46,bK,cl46⟩:=Jr.row aN aO aP
   have bL:=Rt46.flt
   have bM:=Rt46.lth
   have bN:=Ro46.lth
   have bO:=Rm46.lth
   have bP:=Or46.lth
   refine dw [([]++zf 1 b46r),([])] [(14,[1])] (.leaf [(0,10),(1,10),(2,10),(3,10),(4,10),(5,10),(6,10),(7,10),(8,10),(9,10),(10,10),(11,10),(12,0),(13,11),(14,0)]) ?_
   intro j N bQ
   refine Jp<|dn 0 rfl rfl (Kp.refl ([]++zf 1 b46r) j)<|dn 0 rfl rfl (Kp.refl ([]++zf 1 b46r) j) ?_
   have aQ:=(Ro46.gr N)
   refine qh 0 rfl rfl (Kp.refl ([]++zf 1 b46r) j) (fun w hS=>Jl (l:=hs46) (c:=Jv) (i:=g) Tryz.underlying209 (Yn).siz rfl (Rd.kp aQ hS (Qd ((Qd neA46.o):1=0∨1=0∨d≠b46r))) rfl hi46)<|qh 0 rfl rfl (Kp.refl ([]++zf 1 b46r) j) (fun w hS=>Zt (c:=Jv) (q:=0) (u:=vi46) Yn rfl (Rd.kp aQ hS (Qd ((Qd neA46.o):1=0∨1=0∨d≠b46r))) hi46 (by first|rfl|omega) rfl)<|dn 0 rfl rfl (Kp.refl ([]++zf 1 b46r) j) ?_
   have aR:=(Rm46.gr N)
   refine qh 0 rfl rfl (Kp.refl ([]++zf 1 b46r) j) (fun w hS=>Jl (l:=qs46) (c:=Jv) (i:=a6) Tryz.underlying252 (Zp).siz rfl (Rd.kp aR hS (Qd ((Qd neB46.o):1=0∨1=0∨gi46≠b46r))) rfl ag)<|qh 0 rfl rfl (Kp.refl ([]++zf 1 b46r) j) (fun w hS=>Zt (c:=Jv) (q:=0) (u:=u46r) Zp rfl (Rd.kp aR hS (Qd ((Qd neB46.o):1=0∨1=0∨gi46≠b46r))) ag (by first|rfl|omega) rfl)<|dn 0 rfl rfl (Kp.refl ([]++zf 1 b46r) j)<|qh 0 rfl rfl (Kp.refl ([]++zf 1 b46r) j) (fun w hS=>Qg Kj rfl) ?_
   have bm:=(((B5.kz F).kz G).gr N)
   refine qh 0 rfl rfl (Kp.refl ([]++zf 1 b46r) j) (fun w hS=>Qf (v:=bv p0.Kind) Zb rfl (Bx.kp bm hS (Qd (Qu (b:=b1) ah))) rfl)<|dn 0 rfl rfl (Kp.refl ([]++zf 1 b46r) j)<|dn 0 rfl rfl (Kp.refl ([]++zf 1 b46r) j) ?_
   obtain⟨aw,aS,hm⟩:=Qc hm
   refine qz [] rfl (eC Qpm rfl (Quy aS)) ⟨fun _=>Qn,fun _=>Qn,trivial⟩ ?_
   rintro _ co ⟨rfl,O⟩
   have cp:=O.size
   refine kG O ?_
   obtain⟨cq,T,hm⟩:=Qc hm
   have aT:=(Or46.gr N)
   have bo:=((Kp.refl ([]) j).gr O)
   refine qh 1 rfl rfl bo (fun w hS=>Jl (i:=f) Tryz.underlying30 (Qe).siz rfl (Qk.rd (Qk.kp aT hS)) rfl T) ?_
   have aU:=(aT.gr O)
   have bR:=Qk.z1 aU T
   refine qz [(1,b46r)] rfl (Yt (i:=f) (q:=0) (a':=aw) (vs:=[.int .i64 aw]) (c:=ic) (Qe).siz rfl rfl rfl rfl rfl aU T (by first|rfl|omega) rfl rfl ⟨rfl,rfl⟩) ⟨fun _=>(Qd (Qn:1=0∨(b46r=b46r∧1≠0)∨j.heap.size≤b46r)),nofun,trivial⟩ ?_
   rintro _ ax ⟨aV,aa⟩
   have cr:=aa.size
   refine kM aa ?_
   have Kf46:Kz [(1,b46r)] M ax:=((((Kz.refl _ M).gr N).gr O).md aa (Qd (Qn:1=0∨(b46r=b46r∧1≠0)∨M.heap.size≤b46r)))
   have ai:=cl46 _ _ Kf46.size (Qjv Kf46) aV
   have K_61:Kz [] w2 ax:=((((((Kz.refl [] w2).kz F).kz G).gr N).gr O).md aa (Qd (Xe (A:=(fun x=>w2.heap.size≤x)) ah)))
   have ct:=K_61.size
   have bS:=ai.lth
   refine Qj<|Xi<|Xa<|qg 3 rfl<|qm rfl<|qv rfl (Xn (k:=.i64) (a:=f) (b:=1) rfl rfl)<|qm rfl ?_
   refine Qj ?_
   have K_64:Kz [] w2 ax:=(Kz.kz (Kz.refl _ _) K_61)
   subst S
   exact⟨rfl,⟨n4,t.set g.toNat (bj.set a6.toNat (bk.set f.toNat aw)),Qb (f+1)⟩,Qi,⟨hm,ai,⟨(Xe (A:=(fun x=>w2.heap.size≤x)) C)⟩,K_64⟩,Nat.lt_succ_self _⟩
 have aW:=(Jr.kz s G)
 obtain⟨bp,aX,hm⟩:=Qc hm
 obtain⟨bq,aY,hm⟩:=Qc hm
 obtain⟨Ft66,Rt66,pt66,lf66⟩:=Jr.rdD aW
 obtain⟨hs66,qs66,vi66,gi66,u66r,b66r,Ro66,hi66,Rm66,aj,Or66,ak,neA66,neB66,bT,cl66⟩:=Jr.row aW aX aY
 have bU:=Rt66.flt
 have bV:=Rt66.lth
 have bW:=Ro66.lth
 have bX:=Rm66.lth
 have bY:=Or66.lth
 refine dw [([]++zf 1 b66r),([])] [(18,[1])] (.leaf [(0,10),(1,10),(2,10),(3,10),(4,10),(5,10),(6,10),(7,10),(8,10),(9,10),(10,10),(11,10),(12,10),(13,0),(14,10),(15,10),(16,10),(17,11),(18,0)]) ?_
 intro h H bZ
 refine Jp<|dn 0 rfl rfl (Kp.refl ([]++zf 1 b66r) h)<|dn 0 rfl rfl (Kp.refl ([]++zf 1 b66r) h) ?_
 have aZ:=(Ro66.gr H)
 refine qh 0 rfl rfl (Kp.refl ([]++zf 1 b66r) h) (fun w hS=>Jl (l:=hs66) (c:=Jv) (i:=g) Tryz.underlying209 (Yn).siz rfl (Rd.kp aZ hS (Qd ((Qd neA66.o):1=0∨1=0∨d≠b66r))) rfl hi66)<|qh 0 rfl rfl (Kp.refl ([]++zf 1 b66r) h) (fun w hS=>Zt (c:=Jv) (q:=0) (u:=vi66) Yn rfl (Rd.kp aZ hS (Qd ((Qd neA66.o):1=0∨1=0∨d≠b66r))) hi66 (by first|rfl|omega) rfl)<|dn 0 rfl rfl (Kp.refl ([]++zf 1 b66r) h) ?_
 have a0:=(Rm66.gr H)
 refine qh 0 rfl rfl (Kp.refl ([]++zf 1 b66r) h) (fun w hS=>Jl (l:=qs66) (c:=Jv) (i:=a6) Tryz.underlying252 (Zp).siz rfl (Rd.kp a0 hS (Qd ((Qd neB66.o):1=0∨1=0∨gi66≠b66r))) rfl aj)<|qh 0 rfl rfl (Kp.refl ([]++zf 1 b66r) h) (fun w hS=>Zt (c:=Jv) (q:=0) (u:=u66r) Zp rfl (Rd.kp a0 hS (Qd ((Qd neB66.o):1=0∨1=0∨gi66≠b66r))) aj (by first|rfl|omega) rfl)<|dn 0 rfl rfl (Kp.refl ([]++zf 1 b66r) h) ?_
 have br:=(((B5.kz F).kz G).gr H)
 refine qh 0 rfl rfl (Kp.refl ([]++zf 1 b66r) h) (fun w hS=>Xm Zj rfl (Bx.kp br hS (Qd (Qu (b:=b1) ak))) rfl)<|dn 0 rfl rfl (Kp.refl ([]++zf 1 b66r) h)<|dn 0 rfl rfl (Kp.refl ([]++zf 1 b66r) h)<|dn 0 rfl rfl (Kp.refl ([]++zf 1 b66r) h)<|dn 0 rfl rfl (Kp.refl ([]++zf 1 b66r) h) ?_
 have bs:=(Rt66.gr H)
 obtain⟨ay,a1,hm⟩:=Qc hm
 refine qz [] rfl (eC Qid rfl (Qle p0 t g a6 f _ _ _ _ _ _ a1 _ bs)) ⟨fun _=>Qn,fun _=>Qn,trivial⟩ ?_
 rintro _ cu ⟨rfl,I⟩
 have cv:=I.size
 refine kG I ?_
 have az:=((Kp.refl ([]++zf 1 b66r) h).gr I)
 refine dn 0 rfl rfl az<|dn 0 rfl rfl az<|dn 0 rfl rfl az ?_
 obtain⟨cw,U,hm⟩:=Qc hm
 have a2:=(Or66.gr H)
 have bu:=((Kp.refl ([]) h).gr I)
 refine qh 1 rfl rfl bu (fun w hS=>Jl (i:=f) Tryz.underlying30 (Qe).siz rfl (Qk.rd (Qk.kp a2 hS)) rfl U) ?_
 have a3:=(a2.gr I)
 have b0:=Qk.z1 a3 U
 refine qz [(1,b66r)] rfl (Yt (i:=f) (q:=0) (a':=ay.1) (vs:=[.int .i64 ay.1]) (c:=ic) (Qe).siz rfl rfl rfl rfl rfl a3 U (by first|rfl|omega) rfl rfl ⟨rfl,rfl⟩) ⟨fun _=>(Qd (Qn:1=0∨(b66r=b66r∧1≠0)∨h.heap.size≤b66r)),nofun,trivial⟩ ?_
 rintro _ aA ⟨a4,ab⟩
 have cx:=ab.size
 refine kM ab ?_
 have Kf66:Kz [(1,b66r)] M aA:=((((Kz.refl _ M).gr H).gr I).md ab (Qd (Qn:1=0∨(b66r=b66r∧1≠0)∨M.heap.size≤b66r)))
 have al:=cl66 _ _ Kf66.size (Qjv Kf66) a4
 have K_83:Kz [] w2 aA:=((((((Kz.refl [] w2).kz F).kz G).gr H).gr I).md ab (Qd (Xe (A:=(fun x=>w2.heap.size≤x)) ak)))
 have cy:=K_83.size
 have b2:=al.lth
 refine Qj<|Xi<|Xa<|qg 3 rfl<|qm rfl<|qv rfl (Xn (k:=.i64) (a:=f) (b:=1) rfl rfl)<|qm rfl ?_
 refine Qj ?_
 have K_86:Kz [] w2 aA:=(Kz.kz (Kz.refl _ _) K_83)
 subst S
 exact⟨rfl,⟨n4,t.set g.toNat (bp.set a6.toNat (bq.set f.toNat ay.1)),Qb (f+1)⟩,Qi,⟨hm,al,⟨(Xe (A:=(fun x=>w2.heap.size≤x)) C)⟩,K_86⟩,Nat.lt_succ_self _⟩
end Go.Proofs.YtopkalcefepilaaGreat.Mx
