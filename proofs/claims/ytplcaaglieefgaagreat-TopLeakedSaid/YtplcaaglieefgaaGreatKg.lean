/- Walks that follow mirrors: Kg. Printed by mx.py. -/
import Derived.Test.YtplcaaglieefgaaGreatKf
import Derived.Test.YtplcaaglieefgaaGreatZd
import Derived.Test.YtplcaaglieefgaaGreatZb
set_option linter.unusedVariables false
set_option linter.unusedSimpArgs false
set_option maxRecDepth 100000
set_option maxHeartbeats 2000000
namespace Go.Proofs.YtplcaaglieefgaaGreat.Mx
open Go Go.RowKit Go.Sx
theorem zB:FA Tryz.prog 81 0 0:=fun _ _ _=>aZ
theorem zC:FA Tryz.prog 81 1 1:=fun _ _ _=>aZ
theorem Ql6:FA Tryz.prog 81 3 18:=fun _ _ _=>aZ
theorem Ll:gG Tryz.prog 79 2:=fun _=>⟨ aZ,aZ⟩
theorem Hy:FA Tryz.prog 79 0 0:=fun _ _ _=>aZ
theorem Xl:FA Tryz.prog 79 1 1:=fun _ _ _=>aZ
theorem Qxl:En Tryz.prog 385:=fun _ _=>aZ
theorem Qxd:En Tryz.prog 355:=fun _ _=>aZ
theorem Qk5:En Tryz.prog 315:=fun _ _=>aZ
theorem Qx7:En Tryz.prog 308:=fun _ _=>aZ
theorem Xc9 {p0 p1 F D E J G f g K r}(hm:Mt p0 p1=some r){w:World}(S:Rd w D E J 1 F (p0.map bD))(T:Rd w f g K 1 G (p1.map bD)):
 Calls Tryz.prog 385 [F,G].toArray w fun e w'=>∃ v,e=.returned v∧(∃ h i j,v=h∧aY w' i j 148 1 h (r.map bD)∧bQ (i=0∨w.heap.size≤j)∧Gr w w'):=by
 unfold Mt at hm;refine bP 20 Tryz.func385 rfl rfl rfl<|qs 1 rfl<|qm rfl<|aX<|aD<|bH ?_;refine dN (α:=Nat × List (BitVec 32) × List (BitVec 32) × Value × Nat × Nat × Nat × Value × Nat × Nat × Nat) ([0,1]++rg 5 13) (fun⟨n1,a5,a7,vy6,zy6,gy6,oy6,vy8,zy8,gy8,oy8⟩=>[(0,vy6),(1,vy8)]) (fun⟨n1,a5,a7,vy6,zy6,gy6,oy6,vy8,zy8,gy8,oy8⟩ wr=>(aC (qK) n1 (a5,a7)=some r)∧Rd wr zy6 gy6 oy6 1 vy6 (a5.map bD)∧bQ (zy6=0∨(gy6=E∧D≠0)∨(gy6=g∧f≠0)∨w.heap.size≤gy6)∧Rd wr zy8 gy8 oy8 1 vy8 (a7.map bD)∧bQ (zy8=0∨(gy8=g∧f≠0)∨w.heap.size≤gy8)∧Kz [] w wr) (fun⟨n1,a5,a7,vy6,zy6,gy6,oy6,vy8,zy8,gy8,oy8⟩=>n1) ⟨aI,p0,p1,F,D,E,J,G,f,g,K⟩ ?_ ?_ ?_
 · exact aR
 · exact⟨hm,S,⟨aN⟩,T,⟨aN⟩,Kz.refl _ _⟩
 clear hm;rintro⟨n1,a5,a7,vy6,zy6,gy6,oy6,vy8,zy8,gy8,oy8⟩ w1 ⟨hm,k,U,d,H,K1⟩;have z3:=K1.size;have hb:=dE hm;clear hm;obtain⟨n1,rfl,hm⟩:=hb;generalize I:aC (qK) n1=Y at hm;unfold qK at hm;try dsimp only at hm
 refine aD<|qs 3 rfl<|qm rfl<|qv rfl (cQ (l:=a7) (c:=bD) Tryz.underlying77 rfl d)<|qv rfl (gT (a:=(a7.length:Int)) (b:=0) rfl rfl)<|aX ?_;refine dM hm rfl (fun c1 hm=>?_) (fun c1 hm=>?_)
 · refine cE<|bL<|bL<|cB<|bY<|qs 3 rfl ?_;refine qm rfl ?_;obtain⟨Z,L,hm⟩:=aV hm;refine qe rfl (eC Qkc rfl (Qpv L k)) ?_;rintro m w3 ⟨_,n,o,rfl,p,q,G3⟩;refine qm rfl<|aX<|aF ?_;have V:=(((Gr.refl w).kz K1).trans G3);cases hm;exact⟨_,_,rfl,aM rfl (aL rfl),m,n,o,rfl,p,⟨(bI (A:=(fun x=>w.heap.size≤x)) q)⟩,V⟩
 refine qu<|bH<|qs 8 rfl<|qn 2 rfl ?_;obtain⟨x9,W,hm⟩:=aV hm;refine qe rfl (eC Qka rfl (Qnl W k d)) ?_;rintro _ w2 ⟨M,N,O,P,s,t,u,y,rfl,Q,R,z,C,G2⟩;refine qn 5 rfl<|aX<|qg 4 rfl ?_;refine qn 4 rfl<|aB<|bE ?_;have K_9:Kz [] w w2:=(K1.gr G2);have X:=(d.gr G2);subst I;exact⟨rfl,⟨n1,a7,x9.2,vy8,zy8,gy8,oy8,s,t,u,y⟩,aR,⟨hm,X,⟨(cU (A:=(fun x=>(x=E∧D≠0)∨(x=g∧f≠0)∨w.heap.size≤x)) H aN)⟩,z,⟨(bI (A:=(fun x=>(x=g∧f≠0)∨w.heap.size≤x)) C)⟩,K_9⟩,cP _⟩
theorem Xc4 {p0 f h j y d k m z r}(hm:Dn p0=some r){w:World}(n:Rd w h j y 1 f (p0.Num.map bD))(s:Rd w k m z 1 d (p0.Den.map bD)):
 Calls Tryz.prog 355 [.agg (iW.cs p0 f d).toArray].toArray w fun e w'=>∃ v,e=.returned v∧(v=.int .i64 r∧Gr w w'):=by
 unfold Dn at hm;refine bP 31 Tryz.func355 rfl rfl rfl<|qs 2 rfl<|qe rfl (bR (cs:=iW.cs p0 f d) rfl rfl) ?_;rintro _ w1 ⟨b1,rfl,T,t,G1⟩;refine qm rfl<|aX<|aD ?_;have X5:=((Gr.refl w).trans G1);refine qj (β:=Bool) (rg 4 13) (fun a1=>[(16,.bool a1)]) (fun a1 wr=>(Zb p0 a1=some r)∧Kz [] w1 wr) ?_ ?_
 · refine qg 13 rfl<|qv rfl (aP Hy rfl)<|qv rfl (aS (v:=f) gP rfl t rfl)<|qv rfl (aP Xl rfl)<|qv rfl (aS (v:=d) gP rfl t rfl) ?_;have C:=(n.gr G1);have x:=(s.gr G1);refine qe rfl (T4 (R:=(mQ 1 bD)) (F:=((zf h j)++(zf k m))) [(p0.Num,f),(p0.Den,d)] Wh rfl (mU rfl (Rd.oneB C) rfl (mU rfl (Rd.oneB x) rfl rfl)) rfl rfl rfl (by simp only[gW,nK,vJ];rintro p (rfl|rfl)<;>first|exact⟨_,_,_,C,(Pr (rX _ _))⟩|exact⟨_,_,_,x,(Ps (rX _ _))⟩) (Xh (A:=fun b=>b<_) (sU C.lth.o) (sU x.lth.o))) ?_
   rintro W w5 ⟨X,U,D,G5⟩;have V:=D.flt;obtain⟨x5,L,hm⟩:=aV hm;refine qe rfl (eC Hm rfl (Td [p0.Num,p0.Den] _ _ _ _ _ _ L _ (eL.rd D))) ?_;rintro _ w6 ⟨rfl,G6⟩;refine qv rfl (eF rfl)<|sN hm rfl (aA rfl) (fun c4 hm=>?_) (fun c4 hm=>?_)
   · refine qn 5 rfl<|aB ?_;have Y1:=Gr.trans G5 G6;exact⟨rfl,true,aR,hm,(bM.gr Y1)⟩
   refine qv rfl (aP Xl rfl) ?_;have Y2:=Gr.trans G5 G6;have M:=(t.gr Y2);refine qv rfl (aS (v:=d) gP rfl M rfl) ?_;have N:=(x.gr Y2);refine qv rfl (cQ (l:=p0.Den) (c:=bD) Tryz.underlying77 rfl N)<|qv rfl (dK (a:=(p0.Den.length:Int)) (b:=0) rfl rfl)<|qm rfl<|aB ?_;exact⟨rfl,(decide ((p0.Den.length:Int)=0)),aR,hm,(bM.gr Y2)⟩
 clear hm;rintro a1 w2 ⟨hm,K2⟩;unfold Zb at hm;refine dY hm rfl (fun c1 hm=>?_) (fun c1 hm=>?_)
 · refine qs 1 rfl<|qm rfl<|qb ?_;have X7:=(X5.kz K2);cases hm;exact⟨_,_,rfl,aM rfl (aL rfl),rfl,X7⟩
 refine qu<|aD<|qs 6 rfl<|qv rfl (aP Hy rfl) ?_;have B8:=(t.kz K2);refine qv rfl (aS (v:=f) gP rfl B8 rfl)<|qv rfl (aP Xl rfl)<|qv rfl (aS (v:=d) gP rfl B8 rfl) ?_;have B9:=((n.gr G1).kz K2);have O:=((s.gr G1).kz K2);obtain⟨x2,P,hm⟩:=aV hm;refine qe rfl (eC Qxl rfl (Xc9 P B9 O)) ?_;rintro E w3 ⟨_,G,H,rfl,g,I,G3⟩;refine qm rfl<|aX ?_;have J:=((X5.kz K2).trans G3);refine qj (β:=Bool) (rg 22 9) (fun a3=>[(30,.bool a3)]) (fun a3 wr=>(Dp a3=some r)∧Kz [] w3 wr) ?_ ?_
 · refine qg 9 rfl<|qm rfl<|qv rfl (cQ (l:=x2) (c:=bD) Tryz.underlying77 rfl (aY.rd g))<|qv rfl (fH (a:=(x2.length:Int)) (b:=1) rfl rfl)<|eB hm rfl (aA rfl) (fun c3 hm=>?_) (fun c3 hm=>?_)
   · refine qn 5 rfl<|aB ?_;exact⟨rfl,true,aR,hm,bM⟩
   refine qm rfl ?_;obtain⟨y4,K,hm⟩:=aV hm;refine qv rfl (cW (i:=0) Tryz.underlying77 (dV).siz rfl (aY.rd g) rfl K)<|qv rfl (dH (q:=0) (u:=dv y4) dV rfl (aY.rd g) K (by first|rfl|omega) rfl)<|qv rfl (Qh4 (p:=y4) (q:=1#32) rfl rfl)<|qm rfl<|aB ?_
   exact⟨rfl,(decide (y4≠1#32)),aR,hm,bM⟩
 clear hm;rintro a3 w4 ⟨hm,K4⟩;unfold Dp at hm;refine dY hm rfl (fun c2 hm=>?_) (fun c2 hm=>?_)
 · refine qs 1 rfl<|qm rfl<|qb ?_;have Q:=(J.kz K4);cases hm;exact⟨_,_,rfl,aM rfl (aL rfl),rfl,Q⟩
 refine qu<|qs 1 rfl<|qm rfl<|aX<|aF ?_;have S:=(J.kz K4);cases hm;exact⟨_,_,rfl,aM rfl (aL rfl),rfl,S⟩
theorem Qtt {p0 d i j k f m n o r}(hm:Wl p0=some r){w:World}(g:Rd w i j k 1 d (p0.Num.map bD))(h:Rd w m n o 1 f (p0.Den.map bD)):
 Calls Tryz.prog 308 [.agg (iW.cs p0 d f).toArray].toArray w fun e w'=>∃ v,e=.returned v∧(v=.bool r∧Gr w w'):=by
 unfold Wl at hm;refine bP 30 Tryz.func308 rfl rfl rfl<|qs 2 rfl<|qe rfl (bR (cs:=iW.cs p0 d f) rfl rfl) ?_;rintro _ w1 ⟨b1,rfl,D,p,G1⟩;refine qm rfl<|aX<|aD ?_;have X5:=((Gr.refl w).trans G1);refine qj (β:=Bool) (rg 5 15) (fun a1=>[(19,.bool a1)]) (fun a1 wr=>(H6 p0 a1=some r)∧Kz [] w1 wr) ?_ ?_
 · refine qg 15 rfl<|qv rfl (bZ Ll rfl p rfl) ?_;have q:=(g.gr G1);have s:=(h.gr G1);obtain⟨x3,u,hm⟩:=aV hm;refine qe rfl (eC Qxd rfl (Xc4 u q s)) ?_;rintro _ w4 ⟨rfl,G4⟩;refine qv rfl (fH (a:=x3) (b:=0) rfl rfl)<|eB hm rfl (aA rfl) (fun c2 hm=>?_) (fun c2 hm=>?_)
   · refine qn 7 rfl ?_;refine qn 4 rfl<|aB ?_;exact⟨rfl,true,aR,hm,(bM.gr G4)⟩
   refine qv rfl (aP Hy rfl) ?_;have t:=(p.gr G4);refine qv rfl (aS (v:=d) gP rfl t rfl) ?_;have x:=(q.gr G4);refine qv rfl (cQ (l:=p0.Num) (c:=bD) Tryz.underlying77 rfl x)<|qv rfl (gT (a:=(p0.Num.length:Int)) (b:=4) rfl rfl)<|qm rfl<|eB hm rfl (aA rfl) (fun c3 hm=>?_) (fun c3 hm=>?_)
   · refine qn 5 rfl<|aB ?_;exact⟨rfl,true,aR,hm,(bM.gr G4)⟩
   refine qv rfl (aP Xl rfl)<|qv rfl (aS (v:=f) gP rfl t rfl) ?_;have y:=(s.gr G4);refine qv rfl (cQ (l:=p0.Den) (c:=bD) Tryz.underlying77 rfl y)<|qv rfl (gT (a:=(p0.Den.length:Int)) (b:=4) rfl rfl)<|qm rfl<|aB ?_;exact⟨rfl,(decide ((4:Int)<(p0.Den.length:Int))),aR,hm,(bM.gr G4)⟩
 clear hm;rintro a1 w2 ⟨hm,K2⟩;unfold H6 at hm;refine dY hm rfl (fun c1 hm=>?_) (fun c1 hm=>?_)
 · refine qs 1 rfl<|qm rfl<|qb ?_;have X7:=(X5.kz K2);cases hm;exact⟨_,_,rfl,aM rfl (aL rfl),rfl,X7⟩
 refine qu<|qs 10 rfl<|qv rfl (aP Hy rfl) ?_;have B8:=(p.kz K2);refine qv rfl (aS (v:=d) gP rfl B8 rfl)<|qv rfl (aP Xl rfl)<|qv rfl (aS (v:=f) gP rfl B8 rfl) ?_;have B9:=((g.gr G1).kz K2);have z:=((h.gr G1).kz K2);obtain⟨x2,A,hm⟩:=aV hm;refine qe rfl (eC Qk5 rfl (Qng A B9 z)) ?_;rintro _ w3 ⟨rfl,G3⟩;refine qn 5 rfl<|aX<|aD ?_;refine qg 3 rfl<|qm rfl<|qv rfl (cN (a:=x2.1) (b:=0) rfl rfl)<|qm rfl<|aX<|aF ?_;have C:=((X5.kz K2).trans G3);cases hm;exact⟨_,_,rfl,aM rfl (aL rfl),rfl,C⟩
theorem Qiw {p0 c g h i d j k l r}(hm:O8 p0=some r){w:World}(m:Rd w g h i 1 c (p0.Limit.Num.map bD))(n:Rd w j k l 1 d (p0.Limit.Den.map bD)):
 Calls Tryz.prog 230 [.agg (fV.cs p0 c d).toArray].toArray w fun e w'=>∃ v,e=.returned v∧(v=.int .i64 r∧Gr w w'):=by
 unfold O8 at hm;refine bP 27 Tryz.func230 rfl rfl rfl<|qs 2 rfl<|qe rfl (bR (cs:=fV.cs p0 c d) rfl rfl) ?_;rintro _ w1 ⟨b1,rfl,s,f,G1⟩;refine qm rfl<|aX<|aD ?_;have X5:=((Gr.refl w).trans G1);refine qj (β:=Bool) (rg 3 24) (fun a1=>[(26,.bool a1)]) (fun a1 wr=>(wU a1=some r)∧Kz [] w1 wr) ?_ ?_
 · refine qg 24 rfl<|qv rfl (aP zB rfl)<|qv rfl (aS (v:=.int .i64 p0.Users) aU rfl f rfl)<|qv rfl (cN (a:=p0.Users) (b:=2) rfl rfl)<|eB hm rfl (aA rfl) (fun c2 hm=>?_) (fun c2 hm=>?_)
   · refine qn 7 rfl ?_;refine qn 7 rfl ?_;refine qn 6 rfl<|aB ?_;exact⟨rfl,true,aR,hm,bM⟩
   refine qv rfl (aP zB rfl)<|qv rfl (aS (v:=.int .i64 p0.Users) aU rfl f rfl)<|qv rfl (gT (a:=p0.Users) (b:=16) rfl rfl)<|qm rfl<|eB hm rfl (aA rfl) (fun c3 hm=>?_) (fun c3 hm=>?_)
   · refine qn 7 rfl ?_;refine qn 7 rfl ?_;refine qm rfl<|aB ?_;exact⟨rfl,true,aR,hm,bM⟩
   refine qv rfl (aP zC rfl)<|qv rfl (aS (v:=.int .i64 p0.Block) aU rfl f rfl)<|qv rfl (cN (a:=p0.Block) (b:=1) rfl rfl)<|qm rfl<|eB hm rfl (aA rfl) (fun c4 hm=>?_) (fun c4 hm=>?_)
   · refine qn 7 rfl ?_;refine qn 3 rfl<|aB ?_;exact⟨rfl,true,aR,hm,bM⟩
   refine qv rfl (aP zC rfl)<|qv rfl (aS (v:=.int .i64 p0.Block) aU rfl f rfl)<|qv rfl (gT (a:=p0.Block) (b:=64) rfl rfl)<|qm rfl<|eB hm rfl (aA rfl) (fun c5 hm=>?_) (fun c5 hm=>?_)
   · refine qn 5 rfl<|aB ?_;exact⟨rfl,true,aR,hm,bM⟩
   refine qv rfl (aP Ql6 rfl)<|qv rfl (gM (vs:=iW.cs p0.Limit c d) Ll rfl f rfl rfl) ?_;have o:=(m.gr G1);have p:=(n.gr G1);obtain⟨x2,q,hm⟩:=aV hm;refine qe rfl (eC Qx7 rfl (Qtt q o p)) ?_;rintro _ w3 ⟨rfl,G3⟩;refine qv rfl (eF rfl)<|qm rfl<|aB ?_;exact⟨rfl,(!x2),aR,hm,(bM.gr G3)⟩
 clear hm;rintro a1 w2 ⟨hm,K2⟩;unfold wU at hm;refine dY hm rfl (fun c1 hm=>?_) (fun c1 hm=>?_)
 · refine qs 1 rfl<|qm rfl<|qb ?_;have X7:=(X5.kz K2);cases hm;exact⟨_,_,rfl,aM rfl (aL rfl),rfl,X7⟩
 refine qu<|qs 1 rfl<|qm rfl<|aX<|aF ?_;have X8:=(X5.kz K2);cases hm;exact⟨_,_,rfl,aM rfl (aL rfl),rfl,X8⟩
end Go.Proofs.YtplcaaglieefgaaGreat.Mx
