/- Walks that follow mirrors: Xb. Printed by mx.py. -/
import Derived.Test.YtplcaaglieefgaaGreatXa
import Derived.Test.YtplcaaglieefgaaGreatZd
set_option linter.unusedVariables false
set_option linter.unusedSimpArgs false
set_option maxRecDepth 100000
set_option maxHeartbeats 2000000
namespace Go.Proofs.YtplcaaglieefgaaGreat.Mx
open Go Go.RowKit Go.Sx
theorem Sw:FA Tryz.prog 24 0 0:=fun _ _ _=>by kernel_rfl
theorem Qkn:En Tryz.prog 344:=fun _ _=>by kernel_rfl
theorem Tx:FA Tryz.prog 24 1 1:=fun _ _ _=>by kernel_rfl
theorem Qce:FA Tryz.prog 24 2 2:=fun _ _ _=>by kernel_rfl
theorem Qko:En Tryz.prog 345:=fun _ _=>by kernel_rfl
theorem Bh:FA Tryz.prog 49 2 2:=fun _ _ _=>by kernel_rfl
theorem Pt:FA Tryz.prog 49 3 3:=fun _ _ _=>by kernel_rfl
theorem Qqm:En Tryz.prog 272:=fun _ _=>by kernel_rfl
theorem Yw:CV Tryz.prog 3 22 .u64:=fun _ _ _=>by kernel_rfl
theorem Qb2:En Tryz.prog 173:=fun _ _=>by kernel_rfl
theorem Qof:Pm Tryz.prog 312 22 1 8:=Sa Tryz.underlying312 rfl (by kernel_rfl)
theorem Qed:ZV Tryz.prog 22 (.int .u64 0):=fun _=>by kernel_rfl
theorem Tg:ZV Tryz.prog 326 (.agg [.int .u64 0,.int .u64 0].toArray):=fun _=>by kernel_rfl
theorem Gy:FA Tryz.prog 326 0 0:=fun _ _ _=>by kernel_rfl
theorem Gs:CV Tryz.prog 5 22 .u64:=fun _ _ _=>by kernel_rfl
theorem Ty:FA Tryz.prog 326 1 1:=fun _ _ _=>by kernel_rfl
theorem Yu:Kx Tryz.prog 326 2:=fun _=>⟨by kernel_rfl,by kernel_rfl⟩
theorem Ai:En Tryz.prog 226:=fun _ _=>by kernel_rfl
theorem Qsf:F1 Tryz.prog 326 0 0:=Qsg (fun _ _=>by kernel_rfl)
theorem Qkd:En Tryz.prog 223:=fun _ _=>by kernel_rfl
theorem Qqs:En Tryz.prog 300:=fun _ _=>by kernel_rfl
theorem Lp:Vn Tryz.prog 312:=fun _=>⟨by kernel_rfl,by kernel_rfl⟩
theorem Lq:Vn Tryz.prog 315:=fun _=>⟨by kernel_rfl,by kernel_rfl⟩
theorem Em:Hf Tryz.prog 311 2 22 1 [.int .u64 0,.int .u64 0]:=Gp Tryz.underlying311 (Zh).siz Qed rfl rfl (by kernel_rfl)
theorem Ah:En Tryz.prog 219:=fun _ _=>by kernel_rfl
theorem Qr0:En Tryz.prog 352:=fun _ _=>by kernel_rfl
theorem Mn:En Tryz.prog 214:=fun _ _=>by kernel_rfl
theorem Qkb:En Tryz.prog 215:=fun _ _=>by kernel_rfl
theorem Fu:ZV Tryz.prog 65 (.agg [.int .u64 0,.int .u64 0].toArray):=fun _=>by kernel_rfl
theorem Cs:BS Tryz.prog 65 (fun i=>[(0,1),(1,1)][i]?) [.int .u64 0,.int .u64 0]:=Hg Tryz.underlying65 Fu ⟨rfl,(Zh).siz,rfl,(Zh).siz,trivial⟩
theorem Nb:FA Tryz.prog 65 0 0:=fun _ _ _=>by kernel_rfl
theorem Qqv:En Tryz.prog 304:=fun _ _=>by kernel_rfl
theorem Qr1:En Tryz.prog 354:=fun _ _=>by kernel_rfl
theorem Qqu:En Tryz.prog 303:=fun _ _=>by kernel_rfl
theorem Qkc:En Tryz.prog 218:=fun _ _=>by kernel_rfl
theorem Qou:Hf Tryz.prog 51 0 65 2 []:=Qej Tryz.underlying51 (Vq).siz
theorem Lz:Pm Tryz.prog 51 65 2 16:=Sa Tryz.underlying51 rfl (by kernel_rfl)
theorem Qcg:FA Tryz.prog 67 2 2:=fun _ _ _=>by kernel_rfl
theorem Qkl:En Tryz.prog 301:=fun _ _=>by kernel_rfl
theorem Rc:Hf Tryz.prog 51 1 65 2 [.int .u64 0,.int .u64 0]:=Gp Tryz.underlying51 (Vq).siz Fu rfl rfl (by kernel_rfl)
theorem Ug:FA Tryz.prog 65 1 1:=fun _ _ _=>by kernel_rfl
theorem Qqj:En Tryz.prog 216:=fun _ _=>by kernel_rfl
theorem Qkp:En Tryz.prog 353:=fun _ _=>by kernel_rfl
theorem Qqt:En Tryz.prog 302:=fun _ _=>by kernel_rfl
theorem Ag:En Tryz.prog 217:=fun _ _=>by kernel_rfl
theorem Qqk:En Tryz.prog 220:=fun _ _=>by kernel_rfl
theorem Ad:CV Tryz.prog 22 2 .i64:=fun _ _ _=>by kernel_rfl
theorem Qpm:CV Tryz.prog 2 22 .u64:=fun _ _ _=>by kernel_rfl
theorem Qqw:En Tryz.prog 305:=fun _ _=>by kernel_rfl
theorem Qql:En Tryz.prog 221:=fun _ _=>by kernel_rfl
theorem Qfk:En Tryz.prog 222:=fun _ _=>by kernel_rfl
theorem Qmp {p0 r}(hm:Qcv p0=some r){w:World}:
 Calls Tryz.prog 344 [wv p0].toArray w fun e w'=>∃ v,e=.returned v∧(v=.bool r∧Gr w w'):=by
 unfold Qcv at hm
 refine Xu 21 Tryz.func344 rfl rfl rfl<|qs 1 rfl<|qm rfl<|Qa<|Qj<|qj (β:=Bool) (rg 4 6) (fun a1=>[(9,.bool a1)]) (fun a1 wr=>(Qcw p0 a1=some r)∧Kz [] w wr) ?_ ?_
 · refine qg 6 rfl<|qm rfl<|qv rfl (Cj (c:=p0) (d:=2#64) rfl rfl)<|Zm hm rfl (Qw rfl) (fun c4 hm=>?_) (fun c4 hm=>?_)
   · refine qn 3 rfl<|Qi ?_
     exact⟨rfl,true,Qh,hm,Xi⟩
   refine qm rfl<|qv rfl (Qe1 (c:=p0) (d:=1048575#64) rfl rfl)<|qm rfl<|Qi ?_
   exact⟨rfl,(decide (1048575#64<p0)),Qh,hm,Xi⟩
 clear hm;rintro a1 w1 ⟨hm,K1⟩
 have z1:=K1.size
 unfold Qcw at hm
 refine Zw hm rfl (fun c1 hm=>?_) (fun c1 hm=>?_)
 · refine qs 1 rfl<|qm rfl<|qb ?_
   have X2:=((Gr.refl w).kz K1)
   cases hm
   exact⟨_,_,rfl,Xj rfl (Qn rfl),rfl,X2⟩
 refine qu<|Qj<|qs 1 rfl<|qm rfl<|Qa ?_
 refine Xz ?_
 have X3:=((Gr.refl w).kz K1)
 refine Kb (α:=Nat × BitVec 64) ([2,3]++rg 10 11) (fun⟨n2,a3⟩=>[(2,.bool false),(3,wv a3)]) (fun⟨n2,a3⟩ wr=>(Xq (Qcx p0) n2 a3=some r)∧Kz [] w1 wr) (fun⟨n2,a3⟩=>n2) ⟨Ze,2#64⟩ ?_ ?_ ?_
 · exact Qh
 · exact⟨hm,Kz.refl _ _⟩
 clear hm;rintro⟨n2,a3⟩ w2 ⟨hm,K2⟩
 have z4:=K2.size
 have hb:=Kd hm;clear hm;obtain⟨n2,rfl,hm⟩:=hb
 generalize f:Xq (Qcx p0) n2=h at hm
 unfold Qcx at hm
 try dsimp only at hm
 refine Qj<|qs 5 rfl<|qn 2 rfl<|qv rfl (Oo (a:=a3) (b:=a3) rfl rfl)<|qm rfl ?_
 refine qv rfl (Qwr (c:=a3*a3) (d:=p0) rfl rfl)<|Qa<|Kg hm rfl (fun c2 hm=>?_) (fun c2 hm=>?_)
 · refine Jl<|Zd<|Zd<|Jk<|Zg<|qs 1 rfl ?_
   refine qm rfl<|Qa<|Qs ?_
   have X7:=(X3.kz K2)
   cases hm
   exact⟨_,_,rfl,Xj rfl (Qn rfl),rfl,X7⟩
 refine qu<|Qj<|Xz<|qs 4 rfl<|qm rfl ?_
 refine qm rfl ?_
 obtain⟨x4,g,hm⟩:=Qd hm
 refine qv rfl (Tf (c:=p0) (d:=a3) rfl rfl g)<|qv rfl (Ed (c:=x4) (d:=0#64) rfl rfl)<|Qa<|Zv hm rfl (fun c3 hm=>?_) (fun c3 hm=>?_)
 · refine qs 1 rfl<|qm rfl<|Qa<|Qs<|Je<|Zb ?_
   refine Zb<|Je<|Zb ?_
   have X5:=(X3.kz K2)
   cases hm
   exact⟨_,_,rfl,Xj rfl (Qn rfl),rfl,X5⟩
 refine Vl<|Zo<|Zg<|qg 3 rfl<|qm rfl<|qv rfl (Eg (a:=a3) (b:=1#64) rfl rfl)<|qm rfl ?_
 refine Qi ?_
 have K_6:Kz [] w1 w2:=K2
 subst f
 exact⟨rfl,⟨n2,a3+1#64⟩,Qh,⟨hm,K_6⟩,Nat.lt_succ_self _⟩
theorem Qmo {p0 p1 p2 r}(hm:Qct p0 p1 p2=some r){w:World}:
 Calls Tryz.prog 345 [wv p0,wv p1,wv p2].toArray w fun e w'=>∃ v,e=.returned v∧(v=wv r∧Gr w w'):=by
 unfold Qct at hm
 refine Xu 31 Tryz.func345 rfl rfl rfl<|qs 1 rfl<|qm rfl<|qd 3 rfl ?_
 refine qm rfl ?_
 obtain⟨x1,i,hm⟩:=Qd hm
 refine qv rfl (Tf (c:=1#64) (d:=p2) rfl rfl i)<|qm rfl<|Qa<|Qj<|qs 4 rfl<|qm rfl ?_
 refine qm rfl ?_
 obtain⟨x2,j,hm⟩:=Qd hm
 refine qv rfl (Tf (c:=p0) (d:=p2) rfl rfl j)<|qm rfl<|Qa<|Xz<|Kb (α:=Nat × BitVec 64 × BitVec 64 × BitVec 64) ([0,1,7]++rg 13 17) (fun⟨n1,a6,a7,a8⟩=>[(0,wv a6),(1,wv a7),(7,wv a8)]) (fun⟨n1,a6,a7,a8⟩ wr=>(Xq (Qcu p2) n1 (a6,a7,a8)=some r)∧Kz [] w wr) (fun⟨n1,a6,a7,a8⟩=>n1) ⟨Ze,x2,p1,x1⟩ ?_ ?_ ?_
 · exact Qh
 · exact⟨hm,Kz.refl _ _⟩
 clear hm;rintro⟨n1,a6,a7,a8⟩ w1 ⟨hm,K1⟩
 have z1:=K1.size
 have hb:=Kd hm;clear hm;obtain⟨n1,rfl,hm⟩:=hb
 generalize f:Xq (Qcu p2) n1=n at hm
 unfold Qcu at hm
 try dsimp only at hm
 refine Qj<|qs 2 rfl<|qm rfl<|qv rfl (Qe1 (c:=a7) (d:=0#64) rfl rfl)<|Qa<|Kg hm rfl (fun c1 hm=>?_) (fun c1 hm=>?_)
 · refine Jl<|Zd<|Zd<|Jk<|Zg<|qs 2 rfl ?_
   refine qn 2 rfl<|Qa<|Qs ?_
   have X4:=((Gr.refl w).kz K1)
   cases hm
   exact⟨_,_,rfl,Xj rfl (Qn rfl),rfl,X4⟩
 refine qu<|Qj<|Xz<|Qj<|qs 3 rfl ?_
 refine qm rfl<|qv rfl (Qx1 (a:=a7) (b:=1#64) rfl rfl)<|qv rfl (Ed (c:=a7 &&& 1#64) (d:=1#64) rfl rfl)<|Qa<|Kg hm rfl (fun c2 hm=>?_) (fun c2 hm=>?_)
 · refine qu<|qg 6 rfl<|qn 2 rfl<|qv rfl (Oo (a:=a6) (b:=a6) rfl rfl)<|qm rfl ?_
   obtain⟨k,g,hm⟩:=Qd hm
   refine qv rfl (Tf (c:=a6*a6) (d:=p2) rfl rfl g)<|qm rfl<|Qi<|Zo<|Zg<|qg 3 rfl<|qm rfl ?_
   obtain⟨nn13,hnn13,hm⟩:=Qd hm
   refine qv rfl (Om (c:=a7) (b:=(un 1#64)) rfl rfl hnn13)<|qm rfl<|Qi ?_
   have K_3:Kz [] w w1:=K1
   subst f
   exact⟨rfl,⟨n1,k,a7 >>> nn13,a8⟩,Qh,⟨hm,K_3⟩,Nat.lt_succ_self _⟩
 refine qg 6 rfl<|qn 2 rfl<|qv rfl (Oo (a:=a8) (b:=a6) rfl rfl)<|qm rfl ?_
 obtain⟨x9,l,hm⟩:=Qd hm
 refine qv rfl (Tf (c:=a8*a6) (d:=p2) rfl rfl l)<|qm rfl<|Qa<|qg 6 rfl<|qn 2 rfl<|qv rfl (Oo (a:=a6) (b:=a6) rfl rfl) ?_
 refine qm rfl ?_
 obtain⟨m,h,hm⟩:=Qd hm
 refine qv rfl (Tf (c:=a6*a6) (d:=p2) rfl rfl h)<|qm rfl<|Qi<|Zo<|Zg<|qg 3 rfl<|qm rfl ?_
 obtain⟨nn11,hnn11,hm⟩:=Qd hm
 refine qv rfl (Om (c:=a7) (b:=(un 1#64)) rfl rfl hnn11)<|qm rfl<|Qi ?_
 have K_2:Kz [] w w1:=K1
 subst f
 exact⟨rfl,⟨n1,m,a7 >>> nn11,x9⟩,Qh,⟨hm,K_2⟩,Nat.lt_succ_self _⟩
theorem Qtu {p0 r}(hm:Qhd p0=some r){w:World}:
 Calls Tryz.prog 272 [.agg (Vi.cs p0).toArray].toArray w fun e w'=>∃ v,e=.returned v∧(v=.int .i64 r∧Gr w w'):=by
 unfold Qhd at hm
 refine Xu 44 Tryz.func272 rfl rfl rfl<|qs 2 rfl<|qe rfl (Xp (cs:=Vi.cs p0) rfl rfl) ?_
 rintro _ w1 ⟨b1,rfl,l,g,G1⟩
 have z1:=G1.size
 have m:=g.lt
 refine qm rfl<|Qa<|Qj ?_
 have X3:=((Gr.refl w).trans G1)
 refine qj (β:=Bool) (rg 3 41) (fun a1=>[(43,.bool a1)]) (fun a1 wr=>(Fg a1=some r)∧Kz [] w1 wr) ?_ ?_
 · refine qg 41 rfl<|qv rfl (Qg Sw rfl)<|qv rfl (Ql (v:=wv p0.P) Zh rfl g rfl) ?_
   obtain⟨x2,h,hm⟩:=Qd hm
   refine qe rfl (eC Qkn rfl (Qmp h)) ?_
   rintro _ w3 ⟨rfl,G3⟩
   have z7:=G3.size
   refine qv rfl (Jj rfl)<|Pw hm rfl (Qw rfl) (fun c2 hm=>?_) (fun c2 hm=>?_)
   · refine qn 7 rfl ?_
     refine qn 7 rfl ?_
     refine qn 7 rfl ?_
     refine qn 7 rfl ?_
     refine qn 7 rfl ?_
     refine qm rfl<|Qi ?_
     exact⟨rfl,true,Qh,hm,(Xi.gr G3)⟩
   refine qv rfl (Qg Tx rfl) ?_
   have B9:=(g.gr G3)
   refine qv rfl (Ql (v:=wv p0.Q) Zh rfl B9 rfl) ?_
   obtain⟨x3,i,hm⟩:=Qd hm
   refine qe rfl (eC Qkn rfl (Qmp i)) ?_
   rintro _ w4 ⟨rfl,G4⟩
   have n:=G4.size
   refine qv rfl (Jj rfl)<|qm rfl<|Pw hm rfl (Qw rfl) (fun c3 hm=>?_) (fun c3 hm=>?_)
   · refine qn 7 rfl ?_
     refine qn 7 rfl ?_
     refine qn 7 rfl ?_
     refine qn 7 rfl ?_
     refine qn 2 rfl<|Qi ?_
     have Y1:=Gr.trans G3 G4
     exact⟨rfl,true,Qh,hm,(Xi.gr Y1)⟩
   refine qv rfl (Qg Sw rfl) ?_
   have f:=(B9.gr G4)
   refine qv rfl (Ql (v:=wv p0.P) Zh rfl f rfl)<|qv rfl (Qe7 (a:=p0.P) (b:=1#64) rfl rfl)<|qv rfl (Qg Tx rfl)<|qv rfl (Ql (v:=wv p0.Q) Zh rfl f rfl) ?_
   obtain⟨x4,j,hm⟩:=Qd hm
   refine qv rfl (Tf (c:=p0.P-1#64) (d:=p0.Q) rfl rfl j)<|qv rfl (Qe2 (c:=x4) (d:=0#64) rfl rfl)<|qm rfl<|Zm hm rfl (Qw rfl) (fun c4 hm=>?_) (fun c4 hm=>?_)
   · refine qn 7 rfl ?_
     refine qn 7 rfl ?_
     refine qn 7 rfl ?_
     refine Qi ?_
     have Y2:=Gr.trans G3 G4
     exact⟨rfl,true,Qh,hm,(Xi.gr Y2)⟩
   refine qv rfl (Qg Qce rfl)<|qv rfl (Ql (v:=wv p0.G) Zh rfl f rfl)<|qv rfl (Cj (c:=p0.G) (d:=2#64) rfl rfl)<|qm rfl<|Zm hm rfl (Qw rfl) (fun c5 hm=>?_) (fun c5 hm=>?_)
   · refine qn 7 rfl ?_
     refine qn 7 rfl ?_
     refine qn 2 rfl<|Qi ?_
     have Y3:=Gr.trans G3 G4
     exact⟨rfl,true,Qh,hm,(Xi.gr Y3)⟩
   refine qv rfl (Qg Qce rfl)<|qv rfl (Ql (v:=wv p0.G) Zh rfl f rfl)<|qv rfl (Qg Sw rfl)<|qv rfl (Ql (v:=wv p0.P) Zh rfl f rfl)<|qv rfl (Ok (c:=p0.G) (d:=p0.P) rfl rfl)<|qm rfl<|Zm hm rfl (Qw rfl) (fun c6 hm=>?_) (fun c6 hm=>?_)
   · refine qn 7 rfl ?_
     refine qn 2 rfl<|Qi ?_
     have Y4:=Gr.trans G3 G4
     exact⟨rfl,true,Qh,hm,(Xi.gr Y4)⟩
   refine qv rfl (Qg Qce rfl)<|qv rfl (Ql (v:=wv p0.G) Zh rfl f rfl)<|qv rfl (Qg Tx rfl)<|qv rfl (Ql (v:=wv p0.Q) Zh rfl f rfl)<|qv rfl (Qg Sw rfl)<|qv rfl (Ql (v:=wv p0.P) Zh rfl f rfl) ?_
   obtain⟨x5,k,hm⟩:=Qd hm
   refine qe rfl (eC Qko rfl (Qmo k)) ?_
   rintro _ w5 ⟨rfl,G5⟩
   have o:=G5.size
   refine qv rfl (Qe2 (c:=x5) (d:=1#64) rfl rfl)<|qm rfl<|Qi ?_
   exact⟨rfl,(decide (x5≠1#64)),Qh,hm,(((Xi.gr G3).gr G4).gr G5)⟩
 clear hm;rintro a1 w2 ⟨hm,K2⟩
 have z4:=K2.size
 unfold Fg at hm
 refine Zw hm rfl (fun c1 hm=>?_) (fun c1 hm=>?_)
 · refine qs 1 rfl<|qm rfl<|qb ?_
   have X5:=(X3.kz K2)
   cases hm
   exact⟨_,_,rfl,Xj rfl (Qn rfl),rfl,X5⟩
 refine qu<|qs 1 rfl<|qm rfl<|Qa<|Qs ?_
 have X6:=(X3.kz K2)
 cases hm
 exact⟨_,_,rfl,Xj rfl (Qn rfl),rfl,X6⟩
theorem Qdi {p0 r}(hm:Uu p0=some r){w:World}:
 Calls Tryz.prog 173 [.agg (Xn.cs p0).toArray].toArray w fun e w'=>∃ v,e=.returned v∧(v=.bool r∧Gr w w'):=by
 unfold Uu at hm
 refine Xu 45 Tryz.func173 rfl rfl rfl<|qs 2 rfl<|qe rfl (Xp (cs:=Xn.cs p0) rfl rfl) ?_
 rintro _ w1 ⟨b1,rfl,l,f,G1⟩
 have z1:=G1.size
 have m:=f.lt
 refine qm rfl<|Qa<|Qj<|dw [([])] [] (.leaf [(0,10),(1,10),(2,10),(3,10),(4,10),(5,10),(6,10),(7,10),(8,10),(9,10),(10,10),(11,10),(12,10),(13,10),(14,10),(15,10),(16,10),(17,10),(18,10),(19,10),(20,10),(21,10),(22,10),(23,10),(24,10),(25,10),(26,0),(27,10),(28,10),(29,10),(30,10),(31,10),(32,10),(33,10),(34,10),(35,10),(36,10),(37,10),(38,10),(39,10),(40,10),(41,10),(42,10)]) ?_
 intro w2 G2 n
 refine Xo<|dh 0 rfl rfl (fun w hS=>Qg Hj rfl) ?_
 have B3:=(f.gr G2)
 refine dh 0 rfl rfl (fun w hS=>Ql (v:=bv p0.Kind) Zj rfl (Bx.kp B3 hS) rfl)<|dh 0 rfl rfl (fun w hS=>Pb (p:=p0.Kind) (q:=4#8) rfl rfl)<|Uv hm 0 rfl rfl (Kp.refl ([]) w2) (fun w hS=>Qw rfl) (fun c1 hm=>?_) (fun c1 hm=>?_)
 · refine dx 0 rfl rfl<|dx 0 rfl rfl<|dx 0 rfl rfl<|dm 0 rfl rfl<|dm 0 rfl rfl<|dx 0 rfl rfl<|dx 0 rfl rfl ?_
   refine dx 0 rfl rfl<|dm 0 rfl rfl<|dm 0 rfl rfl<|dx 0 rfl rfl<|dx 0 rfl rfl<|dx 0 rfl rfl<|dm 0 rfl rfl ?_
   refine dm 0 rfl rfl<|dx 0 rfl rfl<|dx 0 rfl rfl<|dx 0 rfl rfl<|dm 0 rfl rfl<|dm 0 rfl rfl<|dx 0 rfl rfl ?_
   refine dx 0 rfl rfl<|qy rfl<|dx 0 rfl rfl<|dm 0 rfl rfl<|dm 0 rfl rfl<|dx 0 rfl rfl<|dx 0 rfl rfl ?_
   refine dx 0 rfl rfl<|dx 0 rfl rfl<|dx 0 rfl rfl<|dx 0 rfl rfl<|dx 0 rfl rfl<|dx 0 rfl rfl<|dx 0 rfl rfl ?_
   refine dx 0 rfl rfl<|dx 0 rfl rfl<|dm 0 rfl rfl<|dm 0 rfl rfl<|Qa<|Qs ?_
   have Y1:=Gr.trans G1 G2
   have g:=((Gr.refl w).trans Y1)
   cases hm
   exact⟨_,_,rfl,Xj rfl (Qn rfl),rfl,g⟩
 refine dh 0 rfl rfl (fun w hS=>Qg Ga rfl)<|dh 0 rfl rfl (fun w hS=>Ql (v:=.int .i64 p0.Depth) Xm rfl (Bx.kp B3 hS) rfl)<|dh 0 rfl rfl (fun w hS=>Vd (a:=p0.Depth) (b:=0) rfl rfl)<|dm 0 rfl rfl<|Uv hm 0 rfl rfl (Kp.refl ([]) w2) (fun w hS=>Qw rfl) (fun c2 hm=>?_) (fun c2 hm=>?_)
 · refine dx 0 rfl rfl<|dx 0 rfl rfl<|dx 0 rfl rfl<|dm 0 rfl rfl<|dm 0 rfl rfl<|dx 0 rfl rfl<|dx 0 rfl rfl ?_
   refine dx 0 rfl rfl<|dm 0 rfl rfl<|dm 0 rfl rfl<|dx 0 rfl rfl<|dx 0 rfl rfl<|dx 0 rfl rfl<|dm 0 rfl rfl ?_
   refine dm 0 rfl rfl<|dx 0 rfl rfl<|dx 0 rfl rfl<|qy rfl<|dx 0 rfl rfl<|dm 0 rfl rfl<|dm 0 rfl rfl ?_
   refine dx 0 rfl rfl<|dx 0 rfl rfl<|dx 0 rfl rfl<|dx 0 rfl rfl<|dx 0 rfl rfl<|dx 0 rfl rfl<|dx 0 rfl rfl ?_
   refine dx 0 rfl rfl<|dx 0 rfl rfl<|dx 0 rfl rfl<|dx 0 rfl rfl<|dm 0 rfl rfl<|dm 0 rfl rfl<|Qa ?_
   refine Qs ?_
   have Y2:=Gr.trans G1 G2
   have h:=((Gr.refl w).trans Y2)
   cases hm
   exact⟨_,_,rfl,Xj rfl (Qn rfl),rfl,h⟩
 refine dh 0 rfl rfl (fun w hS=>Qg Ga rfl)<|dh 0 rfl rfl (fun w hS=>Ql (v:=.int .i64 p0.Depth) Xm rfl (Bx.kp B3 hS) rfl)<|dh 0 rfl rfl (fun w hS=>Dp (a:=p0.Depth) (b:=6) rfl rfl)<|dm 0 rfl rfl<|Uv hm 0 rfl rfl (Kp.refl ([]) w2) (fun w hS=>Qw rfl) (fun c3 hm=>?_) (fun c3 hm=>?_)
 · refine dx 0 rfl rfl<|dx 0 rfl rfl<|dx 0 rfl rfl<|dm 0 rfl rfl<|dm 0 rfl rfl<|dx 0 rfl rfl<|dx 0 rfl rfl ?_
   refine dx 0 rfl rfl<|dm 0 rfl rfl<|dm 0 rfl rfl<|dx 0 rfl rfl<|dx 0 rfl rfl<|qy rfl<|dx 0 rfl rfl ?_
   refine dm 0 rfl rfl<|dm 0 rfl rfl<|dx 0 rfl rfl<|dx 0 rfl rfl<|dx 0 rfl rfl<|dx 0 rfl rfl<|dx 0 rfl rfl ?_
   refine dx 0 rfl rfl<|dx 0 rfl rfl<|dx 0 rfl rfl<|dx 0 rfl rfl<|dx 0 rfl rfl<|dx 0 rfl rfl<|dm 0 rfl rfl ?_
   refine dm 0 rfl rfl<|Qa<|Qs ?_
   have Y3:=Gr.trans G1 G2
   have i:=((Gr.refl w).trans Y3)
   cases hm
   exact⟨_,_,rfl,Xj rfl (Qn rfl),rfl,i⟩
 refine dh 0 rfl rfl (fun w hS=>Qg Bh rfl)<|dh 0 rfl rfl (fun w hS=>Ql (v:=.int .i64 p0.Degree) Xm rfl (Bx.kp B3 hS) rfl)<|dh 0 rfl rfl (fun w hS=>Vd (a:=p0.Degree) (b:=1) rfl rfl)<|dm 0 rfl rfl<|Uv hm 0 rfl rfl (Kp.refl ([]) w2) (fun w hS=>Qw rfl) (fun c4 hm=>?_) (fun c4 hm=>?_)
 · refine dx 0 rfl rfl<|dx 0 rfl rfl<|dx 0 rfl rfl<|dm 0 rfl rfl<|dm 0 rfl rfl<|dx 0 rfl rfl<|dx 0 rfl rfl ?_
   refine qy rfl<|dx 0 rfl rfl<|dm 0 rfl rfl<|dm 0 rfl rfl<|dx 0 rfl rfl<|dx 0 rfl rfl<|dx 0 rfl rfl ?_
   refine dx 0 rfl rfl<|dx 0 rfl rfl<|dx 0 rfl rfl<|dx 0 rfl rfl<|dx 0 rfl rfl<|dx 0 rfl rfl<|dx 0 rfl rfl ?_
   refine dx 0 rfl rfl<|dm 0 rfl rfl<|dm 0 rfl rfl<|Qa<|Qs ?_
   have Y4:=Gr.trans G1 G2
   have X9:=((Gr.refl w).trans Y4)
   cases hm
   exact⟨_,_,rfl,Xj rfl (Qn rfl),rfl,X9⟩
 refine dh 0 rfl rfl (fun w hS=>Qg Bh rfl)<|dh 0 rfl rfl (fun w hS=>Ql (v:=.int .i64 p0.Degree) Xm rfl (Bx.kp B3 hS) rfl)<|dh 0 rfl rfl (fun w hS=>Dp (a:=p0.Degree) (b:=8) rfl rfl)<|dm 0 rfl rfl<|Uv hm 0 rfl rfl (Kp.refl ([]) w2) (fun w hS=>Qw rfl) (fun c5 hm=>?_) (fun c5 hm=>?_)
 · refine dx 0 rfl rfl<|dx 0 rfl rfl<|qy rfl<|dx 0 rfl rfl<|dm 0 rfl rfl<|dm 0 rfl rfl<|dx 0 rfl rfl ?_
   refine dx 0 rfl rfl<|dx 0 rfl rfl<|dx 0 rfl rfl<|dx 0 rfl rfl<|dx 0 rfl rfl<|dx 0 rfl rfl<|dx 0 rfl rfl ?_
   refine dx 0 rfl rfl<|dx 0 rfl rfl<|dx 0 rfl rfl<|dm 0 rfl rfl<|dm 0 rfl rfl<|Qa<|Qs ?_
   have Y5:=Gr.trans G1 G2
   have X8:=((Gr.refl w).trans Y5)
   cases hm
   exact⟨_,_,rfl,Xj rfl (Qn rfl),rfl,X8⟩
 refine dh 0 rfl rfl (fun w hS=>Qg Pt rfl)<|dh 0 rfl rfl (fun w hS=>Jm (vs:=Vi.cs p0.Group) Qef rfl (Bx.kp B3 hS) rfl rfl) ?_
 obtain⟨x1,j,hm⟩:=Qd hm
 refine qz [] rfl (eC Qqm rfl (Qtu j)) ⟨fun _=>Qb,trivial⟩ ?_
 rintro _ w3 ⟨rfl,G3⟩
 have z4:=G3.size
 refine kG G3 ?_
 have S5:=((Kp.refl ([]) w2).gr G3)
 refine qh 0 rfl rfl S5 (fun w hS=>Kw (a:=x1) (b:=0) rfl rfl)<|dn 0 rfl rfl S5<|Uv hm 0 rfl rfl S5 (fun w hS=>Qw rfl) (fun c6 hm=>?_) (fun c6 hm=>?_)
 · refine qx 0 rfl rfl S5<|qx 0 rfl rfl S5<|qx 0 rfl rfl S5<|qx 0 rfl rfl S5<|qx 0 rfl rfl S5<|qx 0 rfl rfl S5<|qx 0 rfl rfl S5 ?_
   refine qx 0 rfl rfl S5<|qx 0 rfl rfl S5<|qx 0 rfl rfl S5<|qx 0 rfl rfl S5<|dn 0 rfl rfl S5<|dn 0 rfl rfl S5<|Qa ?_
   refine Qs ?_
   have X7:=((((Gr.refl w).trans G1).trans G2).trans G3)
   cases hm
   exact⟨_,_,rfl,Xj rfl (Qn rfl),rfl,X7⟩
 refine qh 0 rfl rfl S5 (fun w hS=>Qg Pt rfl)<|qh 0 rfl rfl S5 (fun w hS=>Qg Tx rfl)<|qh 0 rfl rfl S5 (fun w hS=>Ql (v:=wv p0.Group.Q) Zh rfl (Bx.kp B3 hS) rfl)<|qh 0 rfl rfl S5 (fun w hS=>Qg Ga rfl)<|qh 0 rfl rfl S5 (fun w hS=>Ql (v:=.int .i64 p0.Depth) Xm rfl (Bx.kp B3 hS) rfl) ?_
 obtain⟨nn2,hnn2,hm⟩:=Qd hm
 refine qh 0 rfl rfl S5 (fun w hS=>Ef (a:=1) (b:=p0.Depth) rfl rfl hnn2)<|qh 0 rfl rfl S5 (fun w hS=>Qg Bh rfl)<|qh 0 rfl rfl S5 (fun w hS=>Ql (v:=.int .i64 p0.Degree) Xm rfl (Bx.kp B3 hS) rfl)<|qh 0 rfl rfl S5 (fun w hS=>Zy (k:=.i64) (a:=Hb 1 nn2) (b:=p0.Degree) rfl rfl)<|qh 0 rfl rfl S5 (fun w hS=>Yr Yw rfl)<|qh 0 rfl rfl S5 (fun w hS=>Qe1 (c:=p0.Group.Q) (d:=wd (Qp ((Hb 1 nn2)+p0.Degree))) rfl rfl)<|dn 0 rfl rfl S5 ?_
 refine dn 0 rfl rfl S5<|Qa<|Qs ?_
 have X6:=((((Gr.refl w).trans G1).trans G2).trans G3)
 cases hm
 exact⟨_,_,rfl,Xj rfl (Qn rfl),rfl,X6⟩
theorem Qd0 {p0 r}(hm:Up p0=some r){w:World}:
 Calls Tryz.prog 99 [.agg (Xn.cs p0).toArray].toArray w fun e w'=>∃ v,e=.returned v∧(v=.int .i64 r∧Gr w w'):=by
 unfold Up at hm
 refine Xu 6 Tryz.func99 rfl rfl rfl<|qs 2 rfl<|qe rfl (Xp (cs:=Xn.cs p0) rfl rfl) ?_
 rintro _ w1 ⟨b1,rfl,c,a,G1⟩
 have z1:=G1.size
 have d:=a.lt
 refine qm rfl<|Qa<|Qj<|qs 3 rfl<|qv rfl (Qu Jr rfl a rfl) ?_
 obtain⟨x1,b,hm⟩:=Qd hm
 refine qe rfl (eC Qb2 rfl (Qdi b)) ?_
 rintro _ w2 ⟨rfl,G2⟩
 have z3:=G2.size
 refine qv rfl (Jj rfl)<|Qa<|Zw hm rfl (fun c1 hm=>?_) (fun c1 hm=>?_)
 · refine qs 1 rfl<|qm rfl<|qb ?_
   have X4:=(((Gr.refl w).trans G1).trans G2)
   cases hm
   exact⟨_,_,rfl,Xj rfl (Qn rfl),rfl,X4⟩
 refine qu<|qs 1 rfl<|qm rfl<|Qa<|Qs ?_
 have X5:=(((Gr.refl w).trans G1).trans G2)
 cases hm
 exact⟨_,_,rfl,Xj rfl (Qn rfl),rfl,X5⟩
theorem Qp2 {p0 r}(hm:Qeo p0=some r){w:World}:
 Calls Tryz.prog 226 [kv p0].toArray w fun e w'=>∃ v,e=.returned v∧(v=.agg (Va.cs r).toArray∧Gr w w'):=by
 unfold Qeo at hm
 refine Xu 29 Tryz.func226 rfl rfl rfl<|qs 2 rfl<|qe rfl (Xp (cs:=kb p0) rfl rfl) ?_
 rintro _ w1 ⟨b1,rfl,A,l,G1⟩
 have z1:=G1.size
 have E:=l.lt
 refine qe rfl (Qz (cs:=Va.cs (Va.mk 0#64 0#64)) Tg rfl) ?_
 rintro _ w2 ⟨b2,rfl,B,m,G2⟩
 have z3:=G2.size
 have F:=m.lt
 refine qd 1 rfl<|qe rfl (Qz (cs:=Va.cs (Va.mk 0#64 0#64)) Tg rfl) ?_
 rintro _ w3 ⟨b3,rfl,C,n,G3⟩
 have z5:=G3.size
 have G:=n.lt
 refine Qa<|Qj<|qs 1 rfl<|qm rfl<|Qa<|Xz ?_
 have X7:=((((Gr.refl w).trans G1).trans G2).trans G3)
 refine Kb (α:=Nat × Int × BitVec 64 × BitVec 64) (rg 4 24) (fun⟨n1,a4,a5,a6⟩=>[(5,.int .i64 a4)]) (fun⟨n1,a4,a5,a6⟩ wr=>(Xq (Qaa p0) n1 (a4,a5,a6)=some r)∧Bx wr b3 326 (Va.cs (Va.mk a5 a6))∧Kz [(1,b3)] w3 wr) (fun⟨n1,a4,a5,a6⟩=>n1) ⟨Ze,0,0#64,0#64⟩ ?_ ?_ ?_
 · exact Qh
 · exact⟨hm,n,Kz.refl _ _⟩
 clear hm;rintro⟨n1,a4,a5,a6⟩ w4 ⟨hm,d,K4⟩
 have z8:=K4.size
 have H:=d.lt
 have hb:=Kd hm;clear hm;obtain⟨n1,rfl,hm⟩:=hb
 generalize g:Xq (Qaa p0) n1=D at hm
 unfold Qaa at hm
 try dsimp only at hm
 refine qs 1 rfl<|qv rfl (Jb (a:=a4) (b:=8) rfl rfl)<|Qa<|Qj<|Kg hm rfl (fun c1 hm=>?_) (fun c1 hm=>?_)
 · refine Jl<|Zd<|Zd<|Jk<|Zg<|qs 2 rfl ?_
   refine qv rfl (Qu Yu rfl d rfl) ?_
   have s:=((m.gr G3).kz K4)
   refine qe rfl (Qr Yu rfl rfl rfl s rfl rfl) ?_
   rintro _ w8 ⟨t,M8⟩
   have I:=M8.size
   refine Qa<|Qs ?_
   have u:=((X7.kz K4).md M8)
   cases hm
   exact⟨_,_,rfl,Xj rfl (Zf Yu rfl t rfl),rfl,u⟩
 refine qu<|Qj<|Xz<|qs 2 rfl<|qm rfl ?_
 refine qm rfl<|Qa<|dw [([b3]),([])] [(18,[1]),(20,[1])] (.leaf [(0,10),(1,11),(2,10),(3,10),(4,10),(5,10),(6,10),(7,10),(8,10),(9,11),(10,10),(11,10),(12,10),(13,10),(14,10),(15,10),(16,10),(17,10),(18,0),(19,10),(20,0)]) ?_
 intro w5 G5 J
 refine Xo<|dh 0 rfl rfl (fun w hS=>Qg Gy rfl) ?_
 have h:=(d.gr G5)
 refine dh 1 rfl rfl (fun w hS=>Ql (v:=wv a5) Zh rfl (Bx.kp h hS) rfl) ?_
 obtain⟨nn7,hnn7,hm⟩:=Qd hm
 refine dh 0 rfl rfl (fun w hS=>Qe3 (c:=a5) (b:=(un 8#64)) rfl rfl hnn7)<|dm 0 rfl rfl ?_
 obtain⟨y8,o,hm⟩:=Qd hm
 refine dh 0 rfl rfl (fun w hS=>Te (i:=a4) (p:=p0) Tryz.underlying36 (Zj).siz rfl rfl o) ?_
 have q:=((((l.gr G2).gr G3).kz K4).gr G5)
 refine dh 0 rfl rfl (fun w hS=>Ci (off:=0) (p:=p0) (i:=a4) Zj rfl (Bx.kp q hS) rfl o (by omega))<|dh 0 rfl rfl (fun w hS=>Eb Gs rfl)<|dh 0 rfl rfl (fun w hS=>Fs (a:=a5 <<< nn7) (b:=y8.setWidth 64) rfl rfl)<|dh 0 rfl rfl (fun w hS=>Qg Ty rfl)<|dh 1 rfl rfl (fun w hS=>Ql (v:=wv a6) Zh rfl (Bx.kp h hS) rfl) ?_
 obtain⟨nn9,hnn9,hm⟩:=Qd hm
 refine dh 0 rfl rfl (fun w hS=>Qe3 (c:=a6) (b:=(un 8#64)) rfl rfl hnn9)<|dm 0 rfl rfl<|dh 0 rfl rfl (fun w hS=>Zy (k:=.i64) (a:=8) (b:=a4) rfl rfl) ?_
 obtain⟨j,f,hm⟩:=Qd hm
 refine dh 0 rfl rfl (fun w hS=>Te (i:=Qp (8+a4)) (p:=p0) Tryz.underlying36 (Zj).siz rfl rfl f)<|dh 0 rfl rfl (fun w hS=>Ci (off:=0) (p:=p0) (i:=Qp (8+a4)) Zj rfl (Bx.kp q hS) rfl f (by omega))<|dh 0 rfl rfl (fun w hS=>Eb Gs rfl)<|dh 0 rfl rfl (fun w hS=>Fs (a:=a6 <<< nn9) (b:=j.setWidth 64) rfl rfl)<|dh 0 rfl rfl (fun w hS=>Qg Gy rfl)<|qz [(1,b3)] rfl (Js (cs':=Va.cs (Va.mk ((a5 <<< nn7) ||| (y8.setWidth 64)) a6)) (Zh).siz rfl rfl rfl h rfl rfl) ⟨fun _=>Qb,nofun,trivial⟩ ?_
 rintro _ w6 ⟨x,M6⟩
 have K:=M6.size
 refine kM M6 ?_
 have y:=((Kp.refl ([b3]) w5).md M6)
 refine qh 0 rfl rfl y (fun w hS=>Qg Ty rfl)<|qz [(1,b3)] rfl (Js (cs':=Va.cs (Va.mk ((a5 <<< nn7) ||| (y8.setWidth 64)) ((a6 <<< nn9) ||| (j.setWidth 64)))) (Zh).siz rfl rfl rfl x rfl rfl) ⟨fun _=>Qb,nofun,trivial⟩ ?_
 rintro _ w7 ⟨z,M7⟩
 have L:=M7.size
 refine kM M7<|Qi<|Zo<|Zg<|qg 2 rfl<|qv rfl (Zy (k:=.i64) (a:=a4) (b:=1) rfl rfl)<|qm rfl ?_
 refine Qi ?_
 have K_15:Kz [(1,b3)] w3 w7:=(((K4.gr G5).md M6).md M7)
 subst g
 exact⟨rfl,⟨n1,Qp (a4+1),(a5 <<< nn7) ||| (y8.setWidth 64),(a6 <<< nn9) ||| (j.setWidth 64)⟩,Qh,⟨hm,z,K_15⟩,Nat.lt_succ_self _⟩
theorem Qjj {p0 p1 p2 r}(hm:Qa4 p0 p1 p2=some r){w:World}:
 Calls Tryz.prog 223 [kv p0,wv p1,wv p2].toArray w fun e w'=>∃ v,e=.returned v∧(v=wv r∧Gr w w'):=by
 unfold Qa4 at hm
 refine Xu 16 Tryz.func223 rfl rfl rfl<|qs 2 rfl<|qe rfl (Xp (cs:=kb p0) rfl rfl) ?_
 rintro _ w1 ⟨b1,rfl,g,a,G1⟩
 have z1:=G1.size
 have h:=a.lt
 refine qm rfl<|Qa<|Qj<|qs 2 rfl<|qm rfl<|qv rfl (Ed (c:=p2) (d:=0#64) rfl rfl) ?_
 refine Qa<|Zv hm rfl (fun c1 hm=>?_) (fun c1 hm=>?_)
 · refine qs 1 rfl<|qm rfl<|qb ?_
   have X3:=((Gr.refl w).trans G1)
   cases hm
   exact⟨_,_,rfl,Xj rfl (Qn rfl),rfl,X3⟩
 refine qu<|qs 8 rfl<|qv rfl (Qu Qy rfl a rfl)<|qm rfl<|qe rfl (eC Wn rfl (Wm p0 (Xr 3#8) (Wf _) (Wc _) p1 _)) ?_
 rintro _ w2 ⟨rfl,G2⟩
 have z4:=G2.size
 obtain⟨x1,b,hm⟩:=Qd hm
 refine qe rfl (eC Ai rfl (Qp2 b)) ?_
 rintro _ w3 ⟨rfl,G3⟩
 have z5:=G3.size
 refine qv rfl (Qwl (v:=wv x1.x) Qsf rfl rfl)<|qm rfl ?_
 obtain⟨x2,f,hm⟩:=Qd hm
 refine qv rfl (Tf (c:=x1.x) (d:=p2) rfl rfl f)<|qm rfl<|Qa<|Qs ?_
 have X6:=((((Gr.refl w).trans G1).trans G2).trans G3)
 cases hm
 exact⟨_,_,rfl,Xj rfl (Qn rfl),rfl,X6⟩
theorem Ut {p0 p1 r}(hm:Qdg p0 p1=some r){w:World}:
 Calls Tryz.prog 214 [kv p0,.agg (Xn.cs p1).toArray].toArray w fun e w'=>∃ v,e=.returned v∧(∃ ur0_s zr0_s gr0_s,v=ur0_s∧Qe w' zr0_s gr0_s 22 1 ur0_s (r.map Wi)∧Xk (zr0_s=0∨w.heap.size≤gr0_s)∧Gr w w'):=by
 unfold Qdg at hm
 refine Xu 31 Tryz.func214 rfl rfl rfl<|qs 3 rfl<|qe rfl (Xp (cs:=kb p0) rfl rfl) ?_
 rintro _ w1 ⟨b1,rfl,H,o,G1⟩
 have z1:=G1.size
 have P:=o.lt
 refine qe rfl (Xp (cs:=Xn.cs p1) rfl rfl) ?_
 rintro _ w2 ⟨b2,rfl,I,p,G2⟩
 have z3:=G2.size
 have R:=p.lt
 refine qm rfl<|qd 4 rfl ?_
 have B5:=(o.gr G2)
 refine qv rfl (Qu Qy rfl B5 rfl)<|qe rfl (eC Wn rfl (Wm p0 (Xr 40#8) (Wf _) (Wc _) 0#64 _)) ?_
 rintro _ w3 ⟨rfl,G3⟩
 have z6:=G3.size
 refine qe rfl (Qz (cs:=kb k0) Jq rfl) ?_
 rintro _ w4 ⟨b4,rfl,J,s,G4⟩
 have z7:=G4.size
 have S:=s.lt
 refine qe rfl (Qr Qy rfl rfl rfl s rfl rfl) ?_
 rintro _ w5 ⟨u,M5⟩
 have z9:=M5.size
 refine qd 5 rfl<|qv rfl (Qg Bh rfl) ?_
 have t:=(((p.gr G3).gr G4).md M5)
 refine qv rfl (Ql (v:=.int .i64 p1.Degree) Xm rfl t rfl)<|qv rfl (Zy (k:=.i64) (a:=p1.Degree) (b:=1) rfl rfl) ?_
 obtain⟨l1,y,hm⟩:=Qd hm
 refine qe rfl (Az (c:=Wi) (a:=0#64) Qof Qed rfl ⟨rfl,rfl⟩ rfl y (by decide)) ?_
 rintro z w6 ⟨d,K,h,G6⟩
 have T:=G6.size
 have L:=h.lth
 refine qm rfl<|Qa<|Qj<|qs 3 rfl<|qm rfl<|qv rfl (Zx (l:=l1) (c:=Wi) Tryz.underlying312 rfl (Qe.rd h)) ?_
 refine qm rfl<|Qa<|Xz ?_
 have B:=(((((((Gr.refl w).trans G1).trans G2).trans G3).trans G4).md M5).trans G6)
 refine Kb (α:=Nat × List (BitVec 64) × Int × Value × Nat × Nat) ([6,7]++rg 16 14) (fun⟨n1,a5,a7,vy6,zy6,gy6⟩=>[(6,vy6),(16,.int .i64 a7)]) (fun⟨n1,a5,a7,vy6,zy6,gy6⟩ wr=>(Xq (Qdh p0 p1 l1) n1 (a5,a7)=some r)∧Qe wr zy6 gy6 22 1 vy6 (a5.map Wi)∧Xk (zy6=0∨(gy6=d∧1≠0)∨w6.heap.size≤gy6)∧Kz [(1,d)] w6 wr) (fun⟨n1,a5,a7,vy6,zy6,gy6⟩=>n1) ⟨Ze,l1,0,z,1,d⟩ ?_ ?_ ?_
 · exact Qh
 · exact⟨hm,h,⟨Qb⟩,Kz.refl _ _⟩
 clear hm;rintro⟨n1,a5,a7,vy6,zy6,gy6⟩ w7 ⟨hm,f,g,K7⟩
 have U:=K7.size
 have M:=f.lth
 have hb:=Kd hm;clear hm;obtain⟨n1,rfl,hm⟩:=hb
 generalize j:Xq (Qdh p0 p1 l1) n1=N at hm
 unfold Qdh at hm
 try dsimp only at hm
 refine qs 1 rfl<|qv rfl (Jb (a:=a7) (b:=(l1.length:Int)) rfl rfl)<|Qa<|Qj<|Kg hm rfl (fun c1 hm=>?_) (fun c1 hm=>?_)
 · refine Jl<|Zd<|Zd<|Jk<|Zg<|qs 2 rfl ?_
   refine qn 2 rfl<|Qa<|Qs ?_
   have C:=(B.kz K7 (Qc ((.inr Qb):1=0∨w.heap.size≤d)))
   cases hm
   exact⟨_,_,rfl,Xj rfl (Qn rfl),vy6,zy6,gy6,rfl,f,⟨(Qv (A:=(fun x=>w.heap.size≤x)) g (.inr Qb))⟩,C⟩
 refine qu<|Qj<|Xz<|qs 2 rfl<|qm rfl ?_
 refine qm rfl<|Qa<|qg 11 rfl<|qn 2 rfl ?_
 have D:=((u.gr G6).kz K7 (Qc ((.inr Qb):1=0∨d≠b4)))
 refine qv rfl (Qu Qy rfl D rfl)<|qm rfl<|qv rfl (Yr Yw rfl)<|qv rfl (Qg Pt rfl)<|qv rfl (Qg Tx rfl) ?_
 have E:=((t.gr G6).kz K7 (Qc ((.inr Qb):1=0∨d≠b2)))
 refine qv rfl (Ql (v:=wv p1.Group.Q) Zh rfl E rfl) ?_
 obtain⟨x8,F,hm⟩:=Qd hm
 refine qe rfl (eC Qkd rfl (Qjj F)) ?_
 rintro _ w8 ⟨rfl,G8⟩
 have V:=G8.size
 obtain⟨y9,m,hm⟩:=Qd hm
 have n:=(f.gr G8)
 refine qv rfl (Vm (i:=a7) Tryz.underlying312 (Zh).siz rfl (Qe.rd n) rfl m) ?_
 have O:=Qe.z1 n m
 refine qe rfl (Qlg (i:=a7) (q:=0) (a':=x8) (vs:=[wv x8]) (c:=Wi) (Zh).siz rfl rfl rfl rfl rfl n m (by first|rfl|omega) rfl rfl ⟨rfl,rfl⟩) ?_
 rintro _ w9 ⟨G,M9⟩
 have W:=M9.size
 refine Qi<|Zo<|Zg<|qg 2 rfl<|qv rfl (Zy (k:=.i64) (a:=a7) (b:=1) rfl rfl)<|qm rfl<|Qi ?_
 have K_22:Kz [(1,d)] w6 w9:=((K7.gr G8).md M9 (Qc (Qv (A:=(fun x=>(x=d∧1≠0)∨w6.heap.size≤x)) g Qb)))
 subst j
 exact⟨rfl,⟨n1,a5.set a7.toNat x8,Qp (a7+1),vy6,zy6,gy6⟩,Qh,⟨hm,G,⟨(Qv (A:=(fun x=>(x=d∧1≠0)∨w6.heap.size≤x)) g Qb)⟩,K_22⟩,Nat.lt_succ_self _⟩
theorem Qv2 {p0 vp0 zp0 gp0 op0 r}(hm:Qi8 p0=some r){w:World}(a:Rd w zp0 gp0 op0 1 vp0 (p0.map Wi)):
 Calls Tryz.prog 300 [vp0].toArray w fun e w'=>∃ v,e=.returned v∧(∃ bc0 uc0_s zc0_s gc0_s oc0_s,v=.func (.func 352) #[] [.pointer (some ⟨bc0,0,none⟩)].toArray∧Bx w' bc0 312 ([uc0_s])∧(w.heap.size≤bc0)∧Rd w' zc0_s gc0_s oc0_s 1 uc0_s (r.map Wi)∧Xk (zc0_s=0∨(gc0_s=gp0∧zp0≠0)∨w.heap.size≤gc0_s)∧Gr w w'):=by
 have d:=a.lth
 unfold Qi8 at hm
 refine Xu 4 Tryz.func300 rfl rfl rfl<|qs 2 rfl<|qe rfl (Xp (cs:=[vp0]) rfl (Qjh (Rd.oneB a))) ?_
 rintro _ w1 ⟨b1,rfl,c,b,G1⟩
 have z2:=G1.size
 have f:=b.lt
 refine qm rfl<|qd 2 rfl<|qv rfl (Da rfl rfl)<|qm rfl<|Qa ?_
 refine Qs ?_
 have B4:=(a.gr G1)
 have X5:=((Gr.refl w).trans G1)
 cases hm
 exact⟨_,_,rfl,Xj rfl (Qn rfl),b1,vp0,zp0,gp0,op0,rfl,b,by omega,B4,⟨Qb⟩,X5⟩
theorem Qv1 (p1:List (BitVec 64))(bp1:Nat)(vp1_0:Value)(zp1_0 gp1_0 op1_0:Nat)(xs:List (Int × BitVec 64))(hm:Qi7 p1=some xs)(w0:World)(hbp1:Bx w0 bp1 312 ([vp1_0]))(m:Rd w0 zp1_0 gp1_0 op1_0 1 vp1_0 (p1.map Wi)):
 IT Tryz.prog 352 [.pointer (some ⟨bp1,0,none⟩)] (xs.map (fun(x:Int × BitVec 64)=>([.int .i64 x.1,wv x.2]:List Value))) (zf zp1_0 gp1_0++[bp1]) w0:=by
 intro l J Jx w fp hG hJ hJx hcap h0 hY
 have c1:=Rd.gr m hG
 have E:=c1.lth
 have y:zp1_0=0∨gp1_0∉fp:=by by_cases hz:zp1_0=0;exact .inl hz;exact .inr (hcap _ (by simp[Jc,hz]))
 have c4:=Bx.gr hbp1 hG
 have F:=c4.lt
 have z:bp1∉fp:=hcap _ (by simp)
 have hd:=Qfe xs
 unfold Qi7 at hm
 refine Xu 19 Tryz.func352 rfl rfl rfl<|qs 4 rfl<|qv rfl (Ql (v:=vp1_0) Lp rfl c4 rfl)<|qv rfl (Zx (l:=p1) (c:=Wi) Tryz.underlying312 rfl c1)<|qv rfl (Ys (k:=.i64) (a:=(p1.length:Int)) (b:=1) rfl rfl)<|qm rfl ?_
 refine Qa<|Xz<|Kb (α:=Nat × Int × Nat × List Nat × List (Int × BitVec 64)) ([3]++rg 7 12) (fun⟨n1,a2,kk,fpl,rl⟩=>[(3,.int .i64 a2)]) (fun⟨n1,a2,kk,fpl,rl⟩ wr=>(Xq (Qds p1) n1 a2=some rl)∧Dr xs kk rl∧J kk fpl wr∧(∀ c∈fpl,c∈fp∨w.heap.size≤c)∧Kp fp w wr∧Rd wr zp1_0 gp1_0 op1_0 1 vp1_0 (p1.map Wi)∧Bx wr bp1 312 ([vp1_0])∧(zp1_0=0∨gp1_0∉fpl)∧bp1∉fpl∧True) (fun⟨n1,a2,kk,fpl,rl⟩=>n1) ⟨Ze,Qp ((p1.length:Int)-1),0,fp,xs⟩ ?_ ?_ ?_
 · exact Qh
 · exact⟨hm,hd,h0,(fun c hc=>Or.inl hc),(Kp.refl fp w),c1,c4,y,z,trivial⟩
 clear hm;rintro⟨n1,a2,n,fpl1,rl1⟩ w1 ⟨hm,dl1,JLw1,sl1,KLw1,d,e,g,h,-⟩
 have z7:=KLw1.size
 have A:=d.lth
 have G:=e.lt
 have hb:=Kd hm;clear hm;obtain⟨n1,rfl,hm⟩:=hb
 generalize p:Xq (Qds p1) n1=D at hm
 unfold Qds at hm
 try dsimp only at hm
 refine Qj<|qs 2 rfl<|qm rfl<|qv rfl (Vd (a:=a2) (b:=0) rfl rfl)<|Qa<|Kg hm rfl (fun c1 hm=>?_) (fun c1 hm=>?_)
 · refine Jl<|Zd<|Zd<|Jk ?_
   have he:=Option.some.inj hm
   have hl:=Dr.last (c:=(fun(x:Int × BitVec 64)=>([.int .i64 x.1,wv x.2]:List Value))) dl1 he.symm
   refine⟨_,_,rfl,Ph rfl,KLw1,.inl ⟨_,sl1,?_⟩⟩
   rw[←hl];exact JLw1
 refine qu<|Qj<|Xz<|qs 8 rfl<|qm rfl ?_
 refine qm rfl<|qv rfl (Ql (v:=vp1_0) Lp rfl e rfl)<|qm rfl ?_
 obtain⟨y3,r,hm⟩:=Qd hm
 refine qv rfl (Vm (i:=a2) Tryz.underlying312 (Zh).siz rfl d rfl r)<|qv rfl (Pz (q:=0) (u:=wv y3) Zh rfl d r (by first|rfl|omega) rfl) ?_
 obtain⟨rr10,hm,he10⟩:=Ot hm
 have j:=Dr.at dl1 he10
 have hd10:=Dr.next dl1 he10
 refine qe rfl (Ud rfl rfl (hY _ _ _ _ (Gd j) JLw1 KLw1 sl1)) ?_
 rintro _ w2 ⟨bb,rfl,KF10,f,hg10,hJb⟩
 have H:=KF10.size
 have sub10:∀ c∈f,c∈fp∨w.heap.size≤c:=Ni sl1 hg10 (by omega)
 have s:=Qtt hg10 g (by have:=A.o;omega)
 have t:=Kt hg10 h (by omega)
 cases bb
 · have Jy10:Jx (n+1) f w2:=hJb
   refine qv rfl (Jj rfl)<|Qa<|Td rfl<|Qs<|Je<|Zb<|Zb ?_
   refine Je ?_
   have KI14:Kp fp w w2:=(KLw1.trans KF10 sl1)
   exact⟨_,_,rfl,Ph rfl,KI14,.inr ⟨_,_,sub10,(by rw[List.length_map];exact(List.getElem?_eq_some_iff.1 j).1),Jy10⟩⟩
 have Jy10:J (n+1) f w2:=hJb
 refine qv rfl (Jj rfl)<|Qa<|Gi rfl<|Vl<|Zo<|Zg<|qg 3 rfl ?_
 refine qm rfl<|qv rfl (Ys (k:=.i64) (a:=a2) (b:=1) rfl rfl)<|qm rfl<|Qi ?_
 have KI15:Kp fp w w2:=(KLw1.trans KF10 sl1)
 have B:=(Rd.kp d KF10 g)
 have C:=(Bx.kp e KF10 h)
 subst p
 exact⟨rfl,⟨n1,Qp (a2-1),(n+1),f,rr10⟩,Qh,⟨hm,hd10,Jy10,sub10,KI15,B,C,s,t,trivial⟩,Nat.lt_succ_self _⟩
theorem Iz {p0 p1 vp1 zp1 gp1 op1 r}(hm:Bu p0 p1=some r){w:World}(f:Rd w zp1 gp1 op1 1 vp1 (p1.map Wi)):
 Calls Tryz.prog 219 [wv p0,vp1].toArray w fun e w'=>∃ v,e=.returned v∧(v=wv r∧Gr w w'):=by
 have n:=f.lth
 unfold Bu at hm
 refine Xu 21 Tryz.func219 rfl rfl rfl<|qs 1 rfl<|qm rfl<|qd 1 rfl ?_
 refine qm rfl<|Qa<|Qj<|qs 3 rfl<|qm rfl<|qv rfl (Zx (l:=p1) (c:=Wi) Tryz.underlying311 rfl f) ?_
 refine qm rfl<|Qa<|Xz<|Kb (α:=Nat × BitVec 64 × Int) ([5,7]++rg 10 10) (fun⟨n1,a3,a4⟩=>[(5,wv a3),(10,.int .i64 a4)]) (fun⟨n1,a3,a4⟩ wr=>(Xq (Qd9 p0 p1) n1 (a3,a4)=some r)∧Kz [] w wr) (fun⟨n1,a3,a4⟩=>n1) ⟨Ze,1#64,0⟩ ?_ ?_ ?_
 · exact Qh
 · exact⟨hm,Kz.refl _ _⟩
 clear hm;rintro⟨n1,a3,a4⟩ w1 ⟨hm,K1⟩
 have z2:=K1.size
 have hb:=Kd hm;clear hm;obtain⟨n1,rfl,hm⟩:=hb
 generalize g:Xq (Qd9 p0 p1) n1=m at hm
 unfold Qd9 at hm
 try dsimp only at hm
 refine qs 1 rfl<|qv rfl (Jb (a:=a4) (b:=(p1.length:Int)) rfl rfl)<|Qa<|Qj<|Kg hm rfl (fun c1 hm=>?_) (fun c1 hm=>?_)
 · refine Jl<|Zd<|Zd<|Jk<|Zg<|qs 2 rfl ?_
   refine qn 2 rfl<|Qa<|Qs ?_
   have X5:=((Gr.refl w).kz K1)
   cases hm
   exact⟨_,_,rfl,Xj rfl (Qn rfl),rfl,X5⟩
 refine qu<|Qj<|Xz<|qs 3 rfl ?_
 obtain⟨y5,h,hm⟩:=Qd hm
 have B3:=(f.kz K1)
 refine qv rfl (Vm (i:=a4) Tryz.underlying311 (Zh).siz rfl B3 rfl h)<|qv rfl (Pz (q:=0) (u:=wv y5) Zh rfl B3 h (by first|rfl|omega) rfl)<|qm rfl<|Qa<|qg 6 rfl<|qn 2 rfl ?_
 refine qv rfl (Oo (a:=a3) (b:=y5) rfl rfl)<|qm rfl ?_
 obtain⟨x6,j,hm⟩:=Qd hm
 refine qv rfl (Tf (c:=a3*y5) (d:=p0) rfl rfl j)<|qm rfl<|Qi<|Zo<|Zg<|qg 2 rfl<|qv rfl (Zy (k:=.i64) (a:=a4) (b:=1) rfl rfl) ?_
 refine qm rfl<|Qi ?_
 have K_4:Kz [] w w1:=K1
 subst g
 exact⟨rfl,⟨n1,x6,Qp (a4+1)⟩,Qh,⟨hm,K_4⟩,Nat.lt_succ_self _⟩
theorem Qmv {p0 p1 p2 vp0 zp0 gp0 op0 r}(hm:Qdd p0 p1 p2=some r){w:World}(B:Rd w zp0 gp0 op0 1 vp0 (p0.map Wi)):
 Calls Tryz.prog 215 [vp0,wv p1,wv p2].toArray w fun e w'=>∃ v,e=.returned v∧(v=wv r∧Gr w w'):=by
 have C:=B.lth
 unfold Qdd at hm
 refine Xu 24 Tryz.func215 rfl rfl rfl<|qs 3 rfl<|qe rfl (Xp (cs:=[wv p1]) rfl rfl) ?_
 rintro _ w1 ⟨b1,rfl,aj,D,G1⟩
 have z2:=G1.size
 have au:=D.lt
 refine qe rfl (Xp (cs:=[wv p2]) rfl rfl) ?_
 rintro _ w2 ⟨b2,rfl,ak,F,G2⟩
 have z4:=G2.size
 have av:=F.lt
 refine qm rfl<|qd 2 rfl<|qe rfl (Qz (cs:=[wv 0#64]) Qed rfl) ?_
 rintro _ w3 ⟨b3,rfl,al,G,G3⟩
 have z6:=G3.size
 have aw:=G.lt
 refine qe rfl (Js (cs':=[wv 0#64]) (Zh).siz rfl rfl rfl G rfl rfl) ?_
 rintro _ w4 ⟨V,M4⟩
 have z8:=M4.size
 refine Qa<|Qj<|qs 2 rfl<|qm rfl ?_
 have B9:=((((B.gr G1).gr G2).gr G3).md M4 (Qm C))
 obtain⟨x1,X,hm⟩:=Qd hm
 refine qe rfl (eC Qqs rfl (Qv2 X B9)) ?_
 rintro _ w5 ⟨H,u,y,z,A,rfl,g,I,f,j,G5⟩
 have ax:=G5.size
 have J:=f.lth
 have am:=g.lt
 refine Qa<|Xz ?_
 obtain⟨l2,Y,hm⟩:=Qd hm
 have Z:=((((((Gr.refl w).trans G1).trans G2).trans G3).md M4).trans G5)
 have ay:=(B9.gr G5)
 have aa:=((((D.gr G2).gr G3).md M4).gr G5)
 have ab:=(((F.gr G3).md M4).gr G5)
 have ac:=(V.gr G5)
 refine Ch (gf:=352) rfl Qr0 (Qv1 x1 _ _ _ _ _ _ Y _ g f) (by intro x hx;obtain⟨a,_,rfl⟩:=List.mem_map.1 hx;rfl) rfl _ (fun _ _ _ _=>False) ([b3]) (Cf (α:=BitVec 64) (fun a4 rk=>Vw (Qdf p1 p2) Qde (List.drop rk l2) a4=some r) (fun a4=>([b3])) (fun a4 W=>Bx W b3 22 ([wv a4])∧True) (by rintro a4 W ⟨F0,_⟩ b hb;have q0:=F0.lt;replace hb:b∈([b3]):=hb;simp only[List.mem_cons,List.mem_append,Jc,List.not_mem_nil,or_false,false_or,not_or,ne_eq,List.nil_append,List.cons_append,true_and,and_true,false_and,and_false,not_true_eq_false,not_false_eq_true,or_true,true_or] at hb;omega) (by rintro a4 W W' ⟨F0,_⟩ E hs;replace hs:∀ b∈([b3]),W'.heap[b]? = W.heap[b]? := hs;exact⟨(hs _ (by simp)).trans F0,trivial⟩)) (fun _=>Oh) (by intro b hb;have:=(Qf (b:=b3) j (Qm C));have:=J.o;simp only[List.mem_cons,List.mem_append,Jc,List.not_mem_nil,or_false,false_or,not_or,ne_eq,List.nil_append,List.cons_append,true_and,and_true,false_and,and_false,not_true_eq_false,not_false_eq_true,or_true,true_or] at hb ⊢;omega) ⟨0#64,hm,rfl,ac,trivial⟩ ?_ ?_ ?_
 · rintro l rk x fp w6 hl hx _ K6 hF hln Kv
   clear hm
   obtain⟨⟨e5,e6⟩,hxe,rfl⟩:=map_some hx
   have K:Kz [(1,b3)] w5 w6:=Ll K6 (by intro k hk;simp only[Jo,and_true,List.mem_cons,List.mem_append,Jc,List.not_mem_nil,or_false,false_or,not_or,ne_eq,List.nil_append,List.cons_append,true_and,and_true,false_and,and_false,not_true_eq_false,not_false_eq_true,or_true,true_or] at hk ⊢;omega)
   have az:=K6.size
   refine qg 1 rfl<|qm rfl<|Qi<|⟨rfl,(Gr.refl _),?_⟩
   rintro w7 M7 ⟨a4,hm,rfl,m,-⟩
   have aA:=M7.size
   have an:=m.lt
   replace hm:=Il hm hxe
   generalize hnx1:Vw (Qdf p1 p2) Qde (List.drop (rk+1) l2)=aB at hm
   unfold Qdf at hm
   try dsimp only at hm
   refine Xz<|dw [([b3]),([])] [(9,[1])] (.leaf [(0,10),(1,11),(2,10),(5,10),(7,10),(3,0),(4,0),(6,10),(8,10),(9,0)]) ?_
   intro w8 G8 aC
   refine Xo ?_
   have L:=(((aa.kz K).md M7).gr G8)
   refine dh 0 rfl rfl (fun w hS=>Ql (v:=wv p1) Lq rfl (Bx.kp L hS) rfl) ?_
   have M:=(m.gr G8)
   refine dh 1 rfl rfl (fun w hS=>Ql (v:=wv a4) Zh rfl (Bx.kp M hS) rfl) ?_
   have ad:=(((ab.kz K).md M7).gr G8)
   refine dh 0 rfl rfl (fun w hS=>Ql (v:=wv p2) Zh rfl (Bx.kp ad hS) rfl)<|dm 0 rfl rfl<|dh 0 rfl rfl (fun w hS=>Ql (v:=wv p1) Lq rfl (Bx.kp L hS) rfl)<|qz [] rfl (Ko [a4,p2] Wi Em rfl rfl (Ks rfl) rfl rfl rfl) ⟨fun _=>Qb,fun _=>Qb,trivial⟩ ?_
   rintro aD w9 ⟨aE,ao,N,G9⟩
   have aF:=G9.size
   have ap:=N.lth
   refine kG G9 ?_
   obtain⟨x7,ae,hm⟩:=Qd hm
   refine qz [] rfl (eC Ah rfl (Iz ae (Qe.rd N))) ⟨fun _=>Qb,fun _=>Qb,trivial⟩ ?_
   rintro _ aG ⟨rfl,n⟩
   have aH:=n.size
   refine kG n ?_
   have O:=(((Kp.refl ([b3]) w8).gr G9).gr n)
   refine qh 0 rfl rfl O (fun w hS=>Eg (a:=x7) (b:=e6) rfl rfl) ?_
   obtain⟨x8,af,hm⟩:=Qd hm
   refine qh 0 rfl rfl O (fun w hS=>Tf (c:=x7+e6) (d:=p1) rfl rfl af) ?_
   have ag:=((M.gr G9).gr n)
   refine qz [(1,b3)] rfl (Js (cs':=[wv x8]) (Zh).siz rfl rfl rfl ag rfl rfl) ⟨fun _=>Qb,nofun,trivial⟩ ?_
   rintro _ P ⟨Q,t⟩
   have aI:=t.size
   refine kM t<|Qi<|Zo ?_
   have K_30:Kz [(1,b3)] w7 P:=((((Kz.gr (Kz.refl _ _) G8).gr G9).gr n).md t)
   have Kq30:Kp ([b3]) w7 P:=Ir K_30 (by intro k hk;simp only[Jo,and_true,List.mem_cons,List.mem_append,Jc,List.not_mem_nil,or_false,false_or,not_or,ne_eq,List.nil_append,List.cons_append,true_and,and_true,false_and,and_false,not_true_eq_false,not_false_eq_true,or_true,true_or] at hk ⊢;omega)
   subst hnx1
   exact⟨Kq30,([b3]),(by intro c hc;simp only[List.mem_cons,List.mem_append,Jc,List.not_mem_nil,or_false,false_or,not_or,ne_eq,List.nil_append,List.cons_append,true_and,and_true,false_and,and_false,not_true_eq_false,not_false_eq_true,or_true,true_or] at hc ⊢;omega),⟨x8,hm,rfl,Q,trivial⟩⟩
 · clear hm;rintro p fp s ah q R ⟨a4,hm,rfl,i,-⟩ S
   replace hm:=Io hm
   have T:Kz [(1,b3)] w5 s:=Ll S (by intro k hk;simp only[Jo,and_true,List.mem_cons,List.mem_append,Jc,List.not_mem_nil,or_false,false_or,not_or,ne_eq,List.nil_append,List.cons_append,true_and,and_true,false_and,and_false,not_true_eq_false,not_false_eq_true,or_true,true_or] at hk ⊢;omega)
   have aJ:=S.size
   have aq:=Df.lt (w:=s) q
   simp only[List.mem_cons,List.mem_append,Jc,List.not_mem_nil,or_false,false_or,not_or,ne_eq,List.nil_append,List.cons_append,true_and,and_true,false_and,and_false,not_true_eq_false,not_false_eq_true,or_true,true_or,not_and] at R
   have ar:=i.lt
   unfold Qde at hm
   try dsimp only at hm
   refine Zo<|Zg<|qs 2 rfl<|qv rfl (Ql (v:=wv a4) Zh rfl i rfl)<|qm rfl<|Qa ?_
   refine Qs ?_
   have DL34:=q
   have U:=Md.put (w:=s) p (.deferred none)
   have zL34:=U.size
   have ai:Gr w (s.putObj p (.deferred none)):=((Z.kz T).md U)
   cases hm
   refine⟨_,_,⟨p,rfl,DL34,rfl⟩,Xj rfl (Qn rfl),?_⟩
   exact⟨rfl,ai⟩
 rintro _ _ _ _ _ _ _ _ _ h _
 exact h.elim
theorem Qu8 {p0 p1 p2 r}(hm:Qhs p0 p1 p2=some r){w:World}:
 Calls Tryz.prog 120 [kv p0,.agg (Xn.cs p1).toArray,.int .i64 p2].toArray w fun e w'=>∃ v,e=.returned v∧(∃ ur0_1 zr0_1 gr0_1,v=.tuple [.agg (Xt.cs r.1 ur0_1).toArray,.int .i64 r.2].toArray∧Qe w' zr0_1 gr0_1 120 18 ur0_1 (r.1.Labels.map Zr.cs)∧Xk (zr0_1=0∨w.heap.size≤gr0_1)∧Gr w w'):=by
 unfold Qhs at hm
 refine Xu 38 Tryz.func120 rfl rfl rfl<|qs 4 rfl<|qe rfl (Xp (cs:=kb p0) rfl rfl) ?_
 rintro _ w1 ⟨b1,rfl,H,i,G1⟩
 have z1:=G1.size
 have L:=i.lt
 refine qe rfl (Xp (cs:=Xn.cs p1) rfl rfl) ?_
 rintro _ w2 ⟨b2,rfl,I,j,G2⟩
 have z3:=G2.size
 have M:=j.lt
 refine qe rfl (Qz (cs:=Xt.cs (Xt.mk 0 [] (Qx.mk 0#64 0#64)) (.slice none 0 0)) Eh rfl) ?_
 rintro _ w3 ⟨b3,rfl,J,f,G3⟩
 have z5:=G3.size
 have N:=f.lt
 refine qm rfl<|Qa<|Qj<|qs 3 rfl ?_
 have B7:=(j.gr G3)
 refine qv rfl (Qu Jr rfl B7 rfl) ?_
 obtain⟨x1,s,hm⟩:=Qd hm
 refine qe rfl (eC Qb2 rfl (Qdi s)) ?_
 rintro _ w4 ⟨rfl,G4⟩
 have z8:=G4.size
 refine qv rfl (Jj rfl)<|Qa<|Zw hm rfl (fun c1 hm=>?_) (fun c1 hm=>?_)
 · refine qs 3 rfl<|qv rfl (Zk (cs:=Xt.cs (Xt.mk 0 [] (Qx.mk 0#64 0#64)) (.slice none 0 0)) Ns rfl rfl) ?_
   have B9:=(f.gr G4)
   refine qe rfl (Qr Vf rfl rfl (Xt.cs_ones _ _ rfl) B9 rfl rfl) ?_
   rintro _ w5 ⟨t,M5⟩
   have O:=M5.size
   refine qm rfl<|qb ?_
   have Y1:=Gr.trans (Gr.trans (Gr.trans G1 G2) G3) G4
   have u:=(((Gr.refl w).trans Y1).md M5)
   cases hm
   exact⟨_,_,rfl,Xy rfl (Zf Vf rfl t rfl) (Qn rfl),(.slice none 0 0),0,0,rfl,(Za _ 0 120 18),⟨.inl rfl⟩,u⟩
 refine qu<|Qj ?_
 have Y2:=Gr.trans (Gr.trans (Gr.trans G1 G2) G3) G4
 have k:=((Gr.refl w).trans Y2)
 refine qj (β:=Bool) (rg 13 9) (fun a2=>[(21,.bool a2)]) (fun a2 wr=>(Qd6 p0 p1 p2 a2=some r)∧Kz [] w4 wr) ?_ ?_
 · refine qg 9 rfl<|qm rfl<|qv rfl (Jb (a:=p2) (b:=0) rfl rfl)<|Zm hm rfl (Qw rfl) (fun c3 hm=>?_) (fun c3 hm=>?_)
   · refine qn 6 rfl<|Qi ?_
     exact⟨rfl,true,Qh,hm,Xi⟩
   refine qm rfl<|qv rfl (Qg Ga rfl) ?_
   have x:=(B7.gr G4)
   refine qv rfl (Ql (v:=.int .i64 p1.Depth) Xm rfl x rfl) ?_
   obtain⟨nn5,hnn5,hm⟩:=Qd hm
   refine qv rfl (Ef (a:=1) (b:=p1.Depth) rfl rfl hnn5)<|qv rfl (Vd (a:=p2) (b:=Hb 1 nn5) rfl rfl)<|qm rfl<|Qi ?_
   exact⟨rfl,(decide (Hb 1 nn5≤p2)),Qh,hm,Xi⟩
 clear hm;rintro a2 w6 ⟨hm,K6⟩
 have P:=K6.size
 unfold Qd6 at hm
 refine Zw hm rfl (fun c2 hm=>?_) (fun c2 hm=>?_)
 · refine qs 3 rfl<|qv rfl (Zk (cs:=Xt.cs (Xt.mk 0 [] (Qx.mk 0#64 0#64)) (.slice none 0 0)) Ns rfl rfl) ?_
   have y:=((f.gr G4).kz K6)
   refine qe rfl (Qr Vf rfl rfl (Xt.cs_ones _ _ rfl) y rfl rfl) ?_
   rintro _ w7 ⟨z,M7⟩
   have R:=M7.size
   refine qm rfl<|qb ?_
   have A:=((k.kz K6).md M7)
   cases hm
   exact⟨_,_,rfl,Xy rfl (Zf Vf rfl z rfl) (Qn rfl),(.slice none 0 0),0,0,rfl,(Za _ 0 120 18),⟨.inl rfl⟩,A⟩
 refine qu<|qs 4 rfl<|qm rfl<|qv rfl (Yr Yw rfl)<|qv rfl (Eg (a:=wd p2) (b:=1#64) rfl rfl) ?_
 refine qm rfl<|Qa<|Qj<|dw [([b3])] [] (.leaf [(0,10),(1,10),(2,10),(3,10),(5,10),(6,10),(7,10),(8,10),(4,0),(9,0),(10,10),(11,10),(12,0),(13,10)]) ?_
 intro w8 G8 S
 refine Xo<|dm 0 rfl rfl<|dm 0 rfl rfl ?_
 have Y3:=Gr.trans (Gr.trans G2 G3) G4
 have B:=(((i.gr Y3).kz K6).gr G8)
 refine dh 0 rfl rfl (fun w hS=>Qu Qy rfl (Bx.kp B hS) rfl) ?_
 have l:=(((B7.gr G4).kz K6).gr G8)
 refine dh 0 rfl rfl (fun w hS=>Qu Jr rfl (Bx.kp l hS) rfl)<|dh 0 rfl rfl (fun w hS=>Qg Pt rfl)<|dh 0 rfl rfl (fun w hS=>Qg Tx rfl)<|dh 0 rfl rfl (fun w hS=>Ql (v:=wv p1.Group.Q) Zh rfl (Bx.kp l hS) rfl)<|dm 0 rfl rfl ?_
 obtain⟨x3,C,hm⟩:=Qd hm
 refine qz [] rfl (eC Mn rfl (Ut C)) ⟨fun _=>Qb,trivial⟩ ?_
 rintro m w9 ⟨_,n,o,rfl,c,p,G9⟩
 have T:=G9.size
 have K:=c.lth
 refine kG G9 ?_
 obtain⟨x4,D,hm⟩:=Qd hm
 refine qz [] rfl (eC Qkb rfl (Qmv D (Qe.rd c))) ⟨fun _=>Qb,trivial⟩ ?_
 rintro _ U ⟨rfl,d⟩
 have V:=d.size
 refine kG d ?_
 have h:=(((Kp.refl ([b3]) w8).gr G9).gr d)
 refine qh 0 rfl rfl h (fun w hS=>Zk (cs:=Qx.cs (Qx.mk ((wd p2)+1#64) x4)) Cs rfl rfl)<|qh 0 rfl rfl h (fun w hS=>Zk (cs:=Xt.cs (Xt.mk p2 [] (Qx.mk ((wd p2)+1#64) x4)) (.slice none 0 0)) Ns rfl (Wa rfl rfl rfl (Wa rfl rfl rfl rfl))) ?_
 have E:=(((((f.gr G4).kz K6).gr G8).gr G9).gr d)
 refine qz [(1,b3)] rfl (Qr Vf rfl rfl (Xt.cs_ones _ _ rfl) E rfl rfl) ⟨fun _=>Qb,trivial⟩ ?_
 rintro _ W ⟨q,g⟩
 have X:=g.size
 refine kM g ?_
 have F:=(h.md g)
 refine dn 0 rfl rfl F<|Qa<|Qs ?_
 have G:=(((((k.kz K6).trans G8).trans G9).trans d).md g)
 cases hm
 exact⟨_,_,rfl,Xy rfl (Zf Vf rfl q rfl) (Qn rfl),(.slice none 0 0),0,0,rfl,(Za _ 0 120 18),⟨.inl rfl⟩,G⟩
theorem Qu9 {p0 p1 bp1 r}(hm:Qht p0 p1=some r){w:World}(hbp1:Bx w bp1 65 (Qx.cs p1)):
 Calls Tryz.prog 304 [.agg (Qx.cs p0).toArray,.pointer (some ⟨bp1,0,none⟩)].toArray w fun e w'=>∃ v,e=.returned v∧(v=.bool r∧Gr w w'):=by
 have f:=hbp1.lt
 unfold Qht at hm
 refine Xu 9 Tryz.func304 rfl rfl rfl<|qs 2 rfl<|qe rfl (Xp (cs:=Qx.cs p0) rfl rfl) ?_
 rintro _ w1 ⟨b1,rfl,b,a,G1⟩
 have z2:=G1.size
 have g:=a.lt
 refine qm rfl<|qd 6 rfl<|qv rfl (Qg Nb rfl)<|qv rfl (Ql (v:=wv p0.X) Zh rfl a rfl)<|qv rfl (Qg Nb rfl) ?_
 have B4:=(hbp1.gr G1)
 refine qv rfl (Ql (v:=wv p1.X) Zh rfl B4 rfl)<|qv rfl (Ed (c:=p0.X) (d:=p1.X) rfl rfl)<|qm rfl<|Qa<|Qs ?_
 have X5:=((Gr.refl w).trans G1)
 cases hm
 exact⟨_,_,rfl,Xj rfl (Qn rfl),rfl,X5⟩
theorem Qv8 {p0 d vp0 zp0 gp0 op0 bp1_0 r}(hm:Qif p0 d=some r){w:World}(f:Rd w zp0 gp0 op0 2 vp0 (p0.map Qx.cs))(hbp1_0:Bx w bp1_0 65 (Qx.cs d)):
 Calls Tryz.prog 354 [vp0,.func (.func 304) [].toArray [.pointer (some ⟨bp1_0,0,none⟩)].toArray].toArray w fun e w'=>∃ v,e=.returned v∧(v=.int .i64 r∧Gr w w'):=by
 have n:=f.lth
 have o:=hbp1_0.lt
 unfold Qif at hm
 refine Xu 19 Tryz.func354 rfl rfl rfl<|qs 1 rfl<|qm rfl<|Qa<|Qj<|Qj ?_
 refine qg 3 rfl<|qm rfl<|qv rfl (Zx (l:=p0) (c:=Qx.cs) Tryz.underlying51 rfl f)<|qm rfl<|Qa<|Xz<|Kb (α:=Nat × Int) ([4,5]++rg 8 11) (fun⟨n1,a2⟩=>[(4,.int .i64 0),(8,.int .i64 a2)]) (fun⟨n1,a2⟩ wr=>(Xq (Qdt p0 d) n1 a2=some r)∧Kz [] w wr) (fun⟨n1,a2⟩=>n1) ⟨Ze,0⟩ ?_ ?_ ?_
 · exact Qh
 · exact⟨hm,Kz.refl _ _⟩
 clear hm;rintro⟨n1,a2⟩ w1 ⟨hm,K1⟩
 have z3:=K1.size
 have hb:=Kd hm;clear hm;obtain⟨n1,rfl,hm⟩:=hb
 generalize g:Xq (Qdt p0 d) n1=m at hm
 unfold Qdt at hm
 try dsimp only at hm
 refine qs 1 rfl<|qv rfl (Jb (a:=a2) (b:=(p0.length:Int)) rfl rfl)<|Qa<|Qj<|Kg hm rfl (fun c1 hm=>?_) (fun c1 hm=>?_)
 · refine Jl<|Zd<|Zd<|Jk<|Zg<|qs 1 rfl ?_
   refine qm rfl<|Qa<|Qs ?_
   have X9:=((Gr.refl w).kz K1)
   cases hm
   exact⟨_,_,rfl,Xj rfl (Qn rfl),rfl,X9⟩
 refine qu<|Qj<|Xz<|qs 2 rfl<|qm rfl ?_
 refine qm rfl<|qd 6 rfl<|qn 3 rfl ?_
 obtain⟨y3,h,hm⟩:=Qd hm
 have B4:=(f.kz K1)
 refine qv rfl (Vm (i:=a2) Tryz.underlying51 (Vq).siz rfl B4 rfl h)<|qv rfl (He Vq rfl B4 h (by first|rfl|omega)) ?_
 have B5:=(hbp1_0.kz K1)
 obtain⟨x4,j,hm⟩:=Qd hm
 refine qe rfl (Vk Qqv rfl rfl (Qu9 j B5)) ?_
 rintro _ w2 ⟨rfl,G2⟩
 have z6:=G2.size
 refine Qa<|Zw hm rfl (fun c2 hm=>?_) (fun c2 hm=>?_)
 · refine qs 2 rfl<|qn 2 rfl<|Qa<|Qs<|Je ?_
   refine Zb<|Zb<|Je<|Zb ?_
   have X7:=(((Gr.refl w).kz K1).trans G2)
   cases hm
   exact⟨_,_,rfl,Xj rfl (Qn rfl),rfl,X7⟩
 refine Vl<|Zo<|Zg<|qg 2 rfl<|qv rfl (Zy (k:=.i64) (a:=a2) (b:=1) rfl rfl)<|qm rfl<|Qi ?_
 have K_8:Kz [] w w2:=(K1.gr G2)
 subst g
 exact⟨rfl,⟨n1,Qp (a2+1)⟩,Qh,⟨hm,K_8⟩,Nat.lt_succ_self _⟩
theorem Qv7 {p0 c vp0 zp0 gp0 op0 bp1_0 r}(hm:Qie p0 c=some r){w:World}(d:Rd w zp0 gp0 op0 2 vp0 (p0.map Qx.cs))(hbp1_0:Bx w bp1_0 65 (Qx.cs c)):
 Calls Tryz.prog 303 [vp0,.func (.func 304) [].toArray [.pointer (some ⟨bp1_0,0,none⟩)].toArray].toArray w fun e w'=>∃ v,e=.returned v∧(v=.bool r∧Gr w w'):=by
 have g:=d.lth
 have h:=hbp1_0.lt
 unfold Qie at hm
 refine Xu 9 Tryz.func303 rfl rfl rfl<|qs 1 rfl<|qm rfl<|qd 5 rfl ?_
 refine qn 2 rfl ?_
 obtain⟨x1,f,hm⟩:=Qd hm
 refine qe rfl (eC Qr1 rfl (Qv8 f d hbp1_0)) ?_
 rintro _ w1 ⟨rfl,G1⟩
 have z3:=G1.size
 refine qv rfl (Vd (a:=x1) (b:=0) rfl rfl)<|qm rfl<|Qa<|Qs ?_
 have X4:=((Gr.refl w).trans G1)
 cases hm
 exact⟨_,_,rfl,Xj rfl (Qn rfl),rfl,X4⟩
theorem Qmu {p0 vp0 zp0 gp0 op0 r}(hm:Qd7 p0=some r){w:World}(d:Rd w zp0 gp0 op0 2 vp0 (p0.map Qx.cs)):
 Calls Tryz.prog 218 [vp0].toArray w fun e w'=>∃ v,e=.returned v∧(v=.bool r∧Gr w w'):=by
 have j:=d.lth
 unfold Qd7 at hm
 refine Xu 18 Tryz.func218 rfl rfl rfl<|qs 1 rfl<|qm rfl<|Qa<|Qj<|Qj ?_
 refine qg 3 rfl<|qm rfl<|qv rfl (Zx (l:=p0) (c:=Qx.cs) Tryz.underlying51 rfl d)<|qm rfl<|Qa<|Xz<|Kb (α:=Nat × Int) ([2,3,4]++rg 7 11) (fun⟨n1,a2⟩=>[(2,.bool false),(7,.int .i64 a2)]) (fun⟨n1,a2⟩ wr=>(Xq (Qd8 p0) n1 a2=some r)∧Kz [] w wr) (fun⟨n1,a2⟩=>n1) ⟨Ze,0⟩ ?_ ?_ ?_
 · exact Qh
 · exact⟨hm,Kz.refl _ _⟩
 clear hm;rintro⟨n1,a2⟩ w1 ⟨hm,K1⟩
 have z2:=K1.size
 have hb:=Kd hm;clear hm;obtain⟨n1,rfl,hm⟩:=hb
 generalize f:Xq (Qd8 p0) n1=s at hm
 unfold Qd8 at hm
 try dsimp only at hm
 refine qs 1 rfl<|qv rfl (Jb (a:=a2) (b:=(p0.length:Int)) rfl rfl)<|Qa<|Qj<|Kg hm rfl (fun c1 hm=>?_) (fun c1 hm=>?_)
 · refine Jl<|Zd<|Zd<|Jk<|Zg<|qs 1 rfl ?_
   refine qm rfl<|Qa<|Qs ?_
   have m:=((Gr.refl w).kz K1)
   cases hm
   exact⟨_,_,rfl,Xj rfl (Qn rfl),rfl,m⟩
 refine qu<|Qj<|Xz<|qs 6 rfl<|qm rfl ?_
 obtain⟨y3,g,hm⟩:=Qd hm
 have B3:=(d.kz K1)
 refine qv rfl (Vm (i:=a2) Tryz.underlying51 (Vq).siz rfl B3 rfl g)<|qv rfl (He Vq rfl B3 g (by first|rfl|omega))<|qe rfl (Qz (cs:=Qx.cs (Qx.mk 0#64 0#64)) Fu rfl) ?_
 rintro _ w2 ⟨b2,rfl,t,h,G2⟩
 have z4:=G2.size
 have u:=h.lt
 refine qm rfl<|qe rfl (Qr Vq rfl rfl rfl h rfl rfl) ?_
 rintro _ w3 ⟨n,M3⟩
 have z6:=M3.size
 refine qd 5 rfl<|qn 2 rfl ?_
 obtain⟨l4,o,hm⟩:=Qd hm
 have B7:=((B3.gr G2).md M3 (Qm j))
 refine qt rfl (Qe5 (P:=Tryz.prog) (lo:=0) (hi:=a2) (l:=p0) (c:=Qx.cs) Tryz.underlying51 (Vq).siz rfl B7 rfl ⟨_,rfl⟩ o) ?_
 rintro v8 o8 R8
 have x:=R8.lth
 refine qv rfl (Da rfl rfl) ?_
 obtain⟨x5,p,hm⟩:=Qd hm
 refine qe rfl (eC Qqu rfl (Qv7 p R8 n)) ?_
 rintro _ w4 ⟨rfl,G4⟩
 have y:=G4.size
 refine Qa<|Zw hm rfl (fun c2 hm=>?_) (fun c2 hm=>?_)
 · refine qs 1 rfl<|qm rfl<|Qa<|Qs<|Je<|Zb ?_
   refine Zb<|Je<|Zb ?_
   have q:=(((((Gr.refl w).kz K1).trans G2).md M3).trans G4)
   cases hm
   exact⟨_,_,rfl,Xj rfl (Qn rfl),rfl,q⟩
 refine Vl<|Zo<|Zg<|qg 2 rfl<|qv rfl (Zy (k:=.i64) (a:=a2) (b:=1) rfl rfl)<|qm rfl<|Qi ?_
 have K_12:Kz [] w w4:=(((K1.gr G2).md M3).gr G4)
 subst f
 exact⟨rfl,⟨n1,Qp (a2+1)⟩,Qh,⟨hm,K_12⟩,Nat.lt_succ_self _⟩
theorem Qnf {p0 vp0 zp0 gp0 op0 r}(hm:Qia p0=some r){w:World}(a:Rd w zp0 gp0 op0 2 vp0 (p0.map Qx.cs)):
 Calls Tryz.prog 301 [vp0].toArray w fun e w'=>∃ v,e=.returned v∧(∃ ur0_s zr0_s gr0_s,v=ur0_s∧Qe w' zr0_s gr0_s 65 2 ur0_s (r.map Qx.cs)∧Xk (zr0_s=0∨w.heap.size≤gr0_s)∧Gr w w'):=by
 have t:=a.lth
 unfold Qia at hm
 refine Xu 8 Tryz.func301 rfl rfl rfl<|qs 1 rfl<|qm rfl<|Qa<|Qj<|Qj ?_
 refine qg 2 rfl<|qm rfl ?_
 rcases Qi1 a with⟨g,b,h⟩|⟨u,y,g,b⟩
 · replace hm:(some [])=some r:=by rw[h] at hm;exact hm
   refine qv rfl (Ec Tryz.underlying51 rfl b)<|Qa<|Td rfl<|qs 1 rfl<|qm rfl<|Qa ?_
   refine Qs<|Zb ?_
   cases hm
   exact⟨_,_,rfl,Xj rfl (Qn rfl),(.slice none 0 0),0,0,rfl,(Za _ 0 65 2),⟨.inl rfl⟩,(Gr.refl w)⟩
 skip
 refine qv rfl (Ec Tryz.underlying51 rfl b)<|Qa<|Gi rfl<|qu<|qs 4 rfl ?_
 refine qe rfl (Ko ([]:List Qx) Qx.cs Qou rfl rfl (Ks rfl) rfl rfl rfl) ?_
 rintro z w1 ⟨i,s,d,G1⟩
 have z3:=G1.size
 have B:=d.lth
 refine qm rfl ?_
 have B5:=(a.gr G1)
 obtain⟨l1,j,hm⟩:=Qd hm
 refine qe rfl (Wo (l:=([]:List Qx)) (m:=p0) (c:=Qx.cs) Lz rfl rfl d B5 j (by decide)) ?_
 rintro k w2 ⟨n,o,p,f,C,q⟩
 have z6:=f.size
 refine qm rfl<|Qa<|Qs ?_
 have X7:=(((Gr.refl w).trans G1).ka f (Qc ((.inr Qb):1=0∨w.heap.size≤i)))
 cases hm
 exact⟨_,_,rfl,Xj rfl (Qn rfl),k,n,o,rfl,p,⟨(Yp (A:=(fun x=>w.heap.size≤x)) q (.inr Qb))⟩,X7⟩
theorem Quc {p0 p1 p2 vp1_1 zp1_1 gp1_1 op1_1 vp2_0 zp2_0 gp2_0 op2_0 vp2_2 zp2_2 gp2_2 op2_2 r}(hm:Qhw p0 p1 p2=some r){w:World}(C:Rd w zp1_1 gp1_1 op1_1 18 vp1_1 (p1.Labels.map Zr.cs))(q:Rd w zp2_0 gp2_0 op2_0 18 vp2_0 (p2.Items.map Zc.cs))(h:Rd w zp2_2 gp2_2 op2_2 2 vp2_2 (p2.Points.map Qx.cs)):
 Calls Tryz.prog 216 [.agg (Xn.cs p0).toArray,.agg (Xt.cs p1 vp1_1).toArray,.agg (Qq.cs p2 vp2_0 vp2_2).toArray].toArray w fun e w'=>∃ v,e=.returned v∧(v=.bool r∧Gr w w'):=by
 have be:=C.lth
 have bf:=q.lth
 have bg:=h.lth
 unfold Qhw at hm
 refine Xu 91 Tryz.func216 rfl rfl rfl<|qs 4 rfl<|qe rfl (Xp (cs:=Xn.cs p0) rfl rfl) ?_
 rintro _ w1 ⟨b1,rfl,aQ,G,G1⟩
 have z4:=G1.size
 have bh:=G.lt
 refine qe rfl (Xp (cs:=Xt.cs p1 vp1_1) rfl rfl) ?_
 rintro _ w2 ⟨b2,rfl,aR,S,G2⟩
 have z6:=G2.size
 have bi:=S.lt
 refine qe rfl (Xp (cs:=Qq.cs p2 vp2_0 vp2_2) rfl rfl) ?_
 rintro _ w3 ⟨b3,rfl,aS,s,G3⟩
 have z8:=G3.size
 have bj:=s.lt
 refine qm rfl<|Qa<|Qvs ?_
 have Y1:=Gr.trans (Gr.trans G1 G2) G3
 have ax:=((Gr.refl w).trans Y1)
 refine qj (β:=Bool) ([7]++rg 10 30) (fun a1=>[(7,.bool a1)]) (fun a1 wr=>(Bv p0 p1 p2 a1=some r)∧Kz [] w3 wr) ?_ ?_
 · refine qg 31 rfl<|qv rfl (Qg Wq rfl)<|qv rfl (Ql (v:=vp2_0) Wh rfl s rfl) ?_
   have ay:=(q.gr Y1)
   refine qv rfl (Zx (l:=p2.Items) (c:=Zc.cs) Tryz.underlying50 rfl ay)<|qv rfl (Kw (a:=(p2.Items.length:Int)) (b:=0) rfl rfl)<|Kr hm rfl (Qw rfl) (fun c7 hm=>?_) (fun c7 hm=>?_)
   · refine qn 7 rfl ?_
     refine qn 7 rfl ?_
     refine qn 7 rfl ?_
     refine qn 5 rfl<|Qi ?_
     exact⟨rfl,false,Qh,hm,Xi⟩
   refine qv rfl (Qg Gb rfl)<|qv rfl (Ql (v:=wv p2.Base) Zh rfl s rfl)<|qv rfl (Ok (c:=p2.Base) (d:=1#64) rfl rfl)<|qm rfl<|Kr hm rfl (Qw rfl) (fun c8 hm=>?_) (fun c8 hm=>?_)
   · refine qn 7 rfl ?_
     refine qn 7 rfl ?_
     refine qn 7 rfl ?_
     refine Qi ?_
     exact⟨rfl,false,Qh,hm,Xi⟩
   refine qv rfl (Qg Gb rfl)<|qv rfl (Ql (v:=wv p2.Base) Zh rfl s rfl)<|qv rfl (Qg Pt rfl)<|qv rfl (Qg Sw rfl) ?_
   have Y2:=Gr.trans G2 G3
   have ab:=(G.gr Y2)
   refine qv rfl (Ql (v:=wv p0.Group.P) Zh rfl ab rfl)<|qv rfl (Cj (c:=p2.Base) (d:=p0.Group.P) rfl rfl)<|qm rfl<|Kr hm rfl (Qw rfl) (fun c9 hm=>?_) (fun c9 hm=>?_)
   · refine qn 7 rfl ?_
     refine qn 6 rfl<|Qi ?_
     exact⟨rfl,false,Qh,hm,Xi⟩
   refine qv rfl (Qg Yk rfl)<|qv rfl (Ql (v:=vp2_2) Yi rfl s rfl) ?_
   have ac:=(h.gr Y1)
   refine qv rfl (Zx (l:=p2.Points) (c:=Qx.cs) Tryz.underlying51 rfl ac)<|qv rfl (Qg Bh rfl)<|qv rfl (Ql (v:=.int .i64 p0.Degree) Xm rfl ab rfl)<|qv rfl (Kw (a:=(p2.Points.length:Int)) (b:=p0.Degree) rfl rfl)<|qm rfl<|Kr hm rfl (Qw rfl) (fun az hm=>?_) (fun az hm=>?_)
   · refine qn 5 rfl<|Qi ?_
     exact⟨rfl,false,Qh,hm,Xi⟩
   refine qv rfl (Qg Yk rfl)<|qv rfl (Ql (v:=vp2_2) Yi rfl s rfl) ?_
   obtain⟨aA,ad,hm⟩:=Qd hm
   refine qe rfl (eC Qkc rfl (Qmu ad ac)) ?_
   rintro _ bk ⟨rfl,ae⟩
   have bl:=ae.size
   refine qn 2 rfl<|Qi ?_
   exact⟨rfl,aA,Qh,hm,(Xi.gr ae)⟩
 clear hm;rintro a1 w4 ⟨hm,K4⟩
 have bm:=K4.size
 unfold Bv at hm
 refine Qj<|Qvo<|Zg ?_
 have T:=(ax.kz K4)
 refine qj (β:=Bool) ([7,9]++rg 40 41) (fun a2=>[(7,.bool a2)]) (fun a2 wr=>(Qda p0 p1 a2=some r)∧Kz [] w4 wr) ?_ ?_
 · refine qj (β:=List Qx × Int × Value × Nat × Nat) (rg 40 11) (fun⟨a3,a5,vy4,zy4,gy4⟩=>[(48,vy4),(49,.int .i64 a5),(50,.int .i64 0)]) (fun⟨a3,a5,vy4,zy4,gy4⟩ wr=>(Qhx p0 p1 a1 a3 a5=some r)∧Qe wr zy4 gy4 65 2 vy4 (a3.map Qx.cs)∧Xk (zy4=0∨w4.heap.size≤gy4)∧Kz [] w4 wr) ?_ ?_
   · refine dw [([])] [] (.fork [(0,10),(1,10),(3,10),(4,10),(5,10),(6,10),(10,10)] (.leaf [(2,0),(7,0),(8,0),(9,0)]) (.leaf [(7,0),(2,0),(8,0),(9,0)])) ?_
     intro af t aT
     refine Zt<|dh 0 rfl rfl (fun w hS=>Qg Yk rfl) ?_
     have aB:=((s.kz K4).gr t)
     refine dh 0 rfl rfl (fun w hS=>Ql (v:=vp2_2) Yi rfl (Bx.kp aB hS) rfl)<|dh 0 rfl rfl (fun w hS=>Qg Qcg rfl)<|dh 0 rfl rfl (fun w hS=>Qg Nb rfl) ?_
     have aC:=(((S.gr G3).kz K4).gr t)
     refine dh 0 rfl rfl (fun w hS=>Ql (v:=wv p1.Share.X) Zh rfl (Bx.kp aC hS) rfl)<|dh 0 rfl rfl (fun w hS=>Zk (cs:=Qx.cs (Qx.mk p1.Share.X 1#64)) Cs rfl rfl)<|dm 0 rfl rfl<|Zs ?_ ?_
     · refine Xo ?_
       have aD:=(((h.gr Y1).kz K4).gr t)
       obtain⟨aE,ag,hm⟩:=Qd hm
       refine qz [] rfl (eC Qkl rfl (Qnf ag aD)) ⟨fun _=>Qb,trivial⟩ ?_
       rintro Z bn ⟨_,u,y,rfl,j,f,U⟩
       have bo:=U.size
       have aU:=j.lth
       refine kG U<|qz [] rfl (Ko [(Qx.mk p1.Share.X 1#64)] Qx.cs Rc rfl rfl (Ks rfl) rfl rfl rfl) ⟨fun _=>Qb,trivial⟩ ?_
       rintro aV bp ⟨aW,aF,L,H⟩
       have bq:=H.size
       have aX:=L.lth
       refine kG H ?_
       have aG:=(j.gr H)
       obtain⟨V,ah,hm⟩:=Qd hm
       refine qz [(u,y)] rfl (Wo (l:=aE) (m:=[(Qx.mk p1.Share.X 1#64)]) (c:=Qx.cs) Lz rfl rfl aG (Qe.rd L) ah (by decide)) ⟨fun _=>(Qc (Qk (A:=(fun x=>af.heap.size≤x)) f)),trivial⟩ ?_
       rintro ai br ⟨aj,ak,M,D,aY,al⟩
       have bs:=D.size
       refine⟨Kz.ofKa D,?_⟩
       refine qw rfl (Zx (l:=V) (c:=Qx.cs) Tryz.underlying51 rfl (Qe.rd M))<|Qi ?_
       exact⟨rfl,⟨V,(V.length:Int),ai,aj,ak⟩,Qh,hm,M,⟨(Yp (A:=(fun x=>w4.heap.size≤x)) al (Qk (A:=(fun x=>w4.heap.size≤x)) f))⟩,((((Xi.gr t).gr U).gr H).ka D (Qc (Qk (A:=(fun x=>w4.heap.size≤x)) f)))⟩
     refine Xo<|qz [] rfl (Ko [(Qx.mk p1.Share.X 1#64)] Qx.cs Rc rfl rfl (Ks rfl) rfl rfl rfl) ⟨fun _=>Qb,trivial⟩ ?_
     rintro aZ bu ⟨a0,aH,N,I⟩
     have bw:=I.size
     have a4:=N.lth
     refine kG I ?_
     have aI:=((((h.gr Y1).kz K4).gr t).gr I)
     obtain⟨aJ,am,hm⟩:=Qd hm
     refine qz [] rfl (eC Qkl rfl (Qnf am aI)) ⟨fun _=>Qb,trivial⟩ ?_
     rintro aa bx ⟨_,z,B,rfl,n,g,J⟩
     have bz:=J.size
     have a6:=n.lth
     refine kG J ?_
     have aK:=(N.gr J)
     obtain⟨W,an,hm⟩:=Qd hm
     refine qz [(z,B)] rfl (Wo (l:=aJ) (m:=[(Qx.mk p1.Share.X 1#64)]) (c:=Qx.cs) Lz rfl rfl n (Qe.rd aK) an (by decide)) ⟨fun _=>(Qc (Qk (A:=(fun x=>af.heap.size≤x)) g)),trivial⟩ ?_
     rintro ao bA ⟨ap,aq,O,E,a7,ar⟩
     have bB:=E.size
     refine⟨Kz.ofKa E,?_⟩
     refine qw rfl (Zx (l:=W) (c:=Qx.cs) Tryz.underlying51 rfl (Qe.rd O))<|Qi ?_
     exact⟨rfl,⟨W,(W.length:Int),ao,ap,aq⟩,Qh,hm,O,⟨(Yp (A:=(fun x=>w4.heap.size≤x)) ar (Qk (A:=(fun x=>w4.heap.size≤x)) g))⟩,((((Xi.gr t).gr I).gr J).ka E (Qc (Qk (A:=(fun x=>w4.heap.size≤x)) g)))⟩
   clear hm;rintro⟨a3,a5,vy4,zy4,gy4⟩ w6 ⟨hm,F,aL,K6⟩
   have bC:=K6.size
   have ba:=F.lth
   unfold Qhx at hm
   refine Xz ?_
   have bD:=(T.kz K6)
   have bE:=(((C.gr Y1).kz K4).kz K6)
   have bF:=(((q.gr Y1).kz K4).kz K6)
   have bG:=(((h.gr Y1).kz K4).kz K6)
   refine Kb (α:=Nat × Bool × Int) ([7,9]++rg 50 31) (fun⟨n4,a8,a9⟩=>[(7,.bool a8),(50,.int .i64 a9)]) (fun⟨n4,a8,a9⟩ wr=>(Xq (Qdb p0 p1 a3 a5) n4 (a8,a9)=some r)∧Kz [] w6 wr) (fun⟨n4,a8,a9⟩=>n4) ⟨Ze,a1,0⟩ ?_ ?_ ?_
   · exact Qh
   · exact⟨hm,Kz.refl _ _⟩
   clear hm;rintro⟨n4,a8,a9⟩ w7 ⟨hm,K7⟩
   have bH:=K7.size
   have hb:=Kd hm;clear hm;obtain⟨n4,rfl,hm⟩:=hb
   generalize o:Xq (Qdb p0 p1 a3 a5) n4=bb at hm
   unfold Qdb at hm
   try dsimp only at hm
   refine qs 1 rfl<|qv rfl (Jb (a:=a9) (b:=a5) rfl rfl)<|Qa<|Qj<|Kg hm rfl (fun c2 hm=>?_) (fun c2 hm=>?_)
   · refine Jl<|Zd<|Zd<|Jk ?_
     exact⟨rfl,a8,Qh,hm,((Xi.kz K6).kz K7)⟩
   refine qu<|Qj<|Xz<|qs 4 rfl ?_
   obtain⟨p,R,hm⟩:=Qd hm
   have au:=(F.kz K7)
   refine qv rfl (Vm (i:=a9) Tryz.underlying51 (Vq).siz rfl (Qe.rd au) rfl R)<|qv rfl (He Vq rfl (Qe.rd au) R (by first|rfl|omega))<|qe rfl (Qz (cs:=Qx.cs (Qx.mk 0#64 0#64)) Fu rfl) ?_
   rintro _ w8 ⟨b8,rfl,bc,av,G8⟩
   have bI:=G8.size
   have bd:=av.lt
   refine qe rfl (Qr Vq rfl rfl rfl av rfl rfl) ?_
   rintro _ w9 ⟨K,M9⟩
   have bJ:=M9.size
   refine Qa<|Qj<|qs 2 rfl<|qm rfl<|qv rfl (Jj rfl)<|Qa ?_
   refine Zw hm rfl (fun c3 hm=>?_) (fun c3 hm=>?_)
   · refine Jl<|Zd<|Qj5 rfl<|Zd<|Zd<|Jk ?_
     exact⟨rfl,a8,Qh,hm,((((Xi.kz K6).kz K7).gr G8).md M9)⟩
   refine qu<|qg 25 rfl<|qv rfl (Qg Nb rfl)<|qv rfl (Ql (v:=wv p.X) Zh rfl K rfl)<|qv rfl (Ok (c:=p.X) (d:=1#64) rfl rfl)<|Kr hm rfl (Qw rfl) (fun c4 hm=>?_) (fun c4 hm=>?_)
   · refine qn 7 rfl ?_
     refine qn 7 rfl ?_
     refine qn 7 rfl ?_
     refine Qi<|Zo<|Zg<|qg 2 rfl<|qv rfl (Zy (k:=.i64) (a:=a9) (b:=1) rfl rfl)<|qm rfl<|Qi ?_
     have K_34:Kz [] w6 w9:=((K7.gr G8).md M9)
     subst o
     exact⟨rfl,⟨n4,false,Qp (a9+1)⟩,Qh,⟨hm,K_34⟩,Nat.lt_succ_self _⟩
   refine qv rfl (Qg Nb rfl)<|qv rfl (Ql (v:=wv p.X) Zh rfl K rfl)<|qv rfl (Qg Pt rfl)<|qv rfl (Qg Tx rfl) ?_
   have Y3:=Gr.trans G2 G3
   have aw:=((((((G.gr Y3).kz K4).kz K6).kz K7).gr G8).md M9)
   refine qv rfl (Ql (v:=wv p0.Group.Q) Zh rfl aw rfl)<|qv rfl (Cj (c:=p.X) (d:=p0.Group.Q) rfl rfl)<|qm rfl<|Kr hm rfl (Qw rfl) (fun c5 hm=>?_) (fun c5 hm=>?_)
   · refine qn 7 rfl ?_
     refine qn 6 rfl<|Qi ?_
     refine Zo<|Zg<|qg 2 rfl<|qv rfl (Zy (k:=.i64) (a:=a9) (b:=1) rfl rfl)<|qm rfl<|Qi ?_
     have K_33:Kz [] w6 w9:=((K7.gr G8).md M9)
     subst o
     exact⟨rfl,⟨n4,false,Qp (a9+1)⟩,Qh,⟨hm,K_33⟩,Nat.lt_succ_self _⟩
   refine qv rfl (Qg Ug rfl)<|qv rfl (Ql (v:=wv p.Y) Zh rfl K rfl)<|qv rfl (Ok (c:=p.Y) (d:=1#64) rfl rfl)<|qm rfl<|Kr hm rfl (Qw rfl) (fun c6 hm=>?_) (fun c6 hm=>?_)
   · refine qn 7 rfl ?_
     refine qm rfl<|Qi<|Zo<|Zg<|qg 2 rfl<|qv rfl (Zy (k:=.i64) (a:=a9) (b:=1) rfl rfl)<|qm rfl ?_
     refine Qi ?_
     have K_32:Kz [] w6 w9:=((K7.gr G8).md M9)
     subst o
     exact⟨rfl,⟨n4,false,Qp (a9+1)⟩,Qh,⟨hm,K_32⟩,Nat.lt_succ_self _⟩
   refine qv rfl (Qg Ug rfl)<|qv rfl (Ql (v:=wv p.Y) Zh rfl K rfl)<|qv rfl (Qg Pt rfl)<|qv rfl (Qg Sw rfl)<|qv rfl (Ql (v:=wv p0.Group.P) Zh rfl aw rfl)<|qv rfl (Cj (c:=p.Y) (d:=p0.Group.P) rfl rfl)<|qm rfl ?_
   refine qm rfl<|Qi<|Zo<|Zg<|qg 2 rfl<|qv rfl (Zy (k:=.i64) (a:=a9) (b:=1) rfl rfl)<|qm rfl ?_
   refine Qi ?_
   have K_31:Kz [] w6 w9:=((K7.gr G8).md M9)
   subst o
   exact⟨rfl,⟨n4,decide (p.Y<p0.Group.P),Qp (a9+1)⟩,Qh,⟨hm,K_31⟩,Nat.lt_succ_self _⟩
 clear hm;rintro a2 w5 ⟨hm,K5⟩
 have bK:=K5.size
 unfold Qda at hm
 refine qs 11 rfl<|qm rfl<|Bz hm rfl (Qw rfl) (fun c1 hm=>?_) (fun c1 hm=>?_)
 · refine qn 7 rfl ?_
   refine qn 2 rfl<|Qa<|Qs<|Qn8 ?_
   have aM:=(T.kz K5)
   cases hm
   exact⟨_,_,rfl,Xj rfl (Qn rfl),rfl,aM⟩
 refine qv rfl (Qg Qcg rfl)<|qv rfl (Qg Ug rfl) ?_
 have aN:=(((S.gr G3).kz K4).kz K5)
 refine qv rfl (Ql (v:=wv p1.Share.Y) Zh rfl aN rfl)<|qv rfl (Qg Pt rfl)<|qv rfl (Qg Tx rfl) ?_
 have Y4:=Gr.trans G2 G3
 have aO:=(((G.gr Y4).kz K4).kz K5)
 refine qv rfl (Ql (v:=wv p0.Group.Q) Zh rfl aO rfl)<|qv rfl (Cj (c:=p1.Share.Y) (d:=p0.Group.Q) rfl rfl)<|qn 2 rfl<|Qa<|Qs<|Qn8 ?_
 have aP:=(T.kz K5)
 cases hm
 exact⟨_,_,rfl,Xj rfl (Qn rfl),rfl,aP⟩
theorem Qmn {p0 r}(hm:Qcs p0=some r){w:World}:
 Calls Tryz.prog 353 [wv p0].toArray w fun e w'=>∃ v,e=.returned v∧(v=.bool r∧Gr w w'):=by
 unfold Qcs at hm
 refine Xu 9 Tryz.func353 rfl rfl rfl<|qs 1 rfl<|qm rfl<|qd 7 rfl ?_
 refine qm rfl<|qv rfl (Ok (c:=p0) (d:=1#64) rfl rfl)<|Zm hm rfl (Qw rfl) (fun c1 hm=>?_) (fun c1 hm=>?_)
 · refine qm rfl<|qv rfl (Cj (c:=p0) (d:=4294967296#64) rfl rfl)<|qn 2 rfl<|Qa<|Qs ?_
   cases hm
   exact⟨_,_,rfl,Xj rfl (Qn rfl),rfl,(Gr.refl w)⟩
 refine qn 4 rfl<|Qa<|Qs ?_
 cases hm
 exact⟨_,_,rfl,Xj rfl (Qn rfl),rfl,(Gr.refl w)⟩
theorem Qtw {p0 p1 p2 r}(hm:Qhf p0 p1 p2=some r){w:World}:
 Calls Tryz.prog 302 [wv p0,wv p1,wv p2].toArray w fun e w'=>∃ v,e=.returned v∧(v=.tuple [wv r.1,.int .i64 r.2].toArray∧Gr w w'):=by
 unfold Qhf at hm
 refine Xu 15 Tryz.func302 rfl rfl rfl<|qs 2 rfl<|qn 2 rfl<|Qa<|Qj ?_
 refine qs 3 rfl<|qm rfl ?_
 obtain⟨x1,a,hm⟩:=Qd hm
 refine qe rfl (eC Qkp rfl (Qmn a)) ?_
 rintro _ w1 ⟨rfl,G1⟩
 have z1:=G1.size
 refine qv rfl (Jj rfl)<|Qa<|Zw hm rfl (fun c1 hm=>?_) (fun c1 hm=>?_)
 · refine qs 2 rfl<|qn 2 rfl<|Qa<|Qs<|Zb ?_
   have X2:=((Gr.refl w).trans G1)
   cases hm
   exact⟨_,_,rfl,Xy rfl (Qn rfl) (Qn rfl),rfl,X2⟩
 refine qu<|qs 6 rfl<|qn 3 rfl ?_
 obtain⟨x2,b,hm⟩:=Qd hm
 refine qe rfl (eC Qko rfl (Qmo b)) ?_
 rintro _ w2 ⟨rfl,G2⟩
 have z3:=G2.size
 refine qn 2 rfl<|Qa<|Qs ?_
 have X4:=(((Gr.refl w).trans G1).trans G2)
 cases hm
 exact⟨_,_,rfl,Xy rfl (Qn rfl) (Qn rfl),rfl,X4⟩
theorem Oa {p0 p1 p2 r}(hm:Ur p0 p1 p2=some r){w:World}:
 Calls Tryz.prog 217 [.agg (Xn.cs p0).toArray,wv p1,wv p2].toArray w fun e w'=>∃ v,e=.returned v∧(v=wv r∧Gr w w'):=by
 unfold Ur at hm
 refine Xu 19 Tryz.func217 rfl rfl rfl<|qs 2 rfl<|qe rfl (Xp (cs:=Xn.cs p0) rfl rfl) ?_
 rintro _ w1 ⟨b1,rfl,c,a,G1⟩
 have z1:=G1.size
 have d:=a.lt
 refine qm rfl<|qd 11 rfl<|qn 2 rfl<|qv rfl (Qg Pt rfl) ?_
 refine qv rfl (Qg Sw rfl)<|qv rfl (Ql (v:=wv p0.Group.P) Zh rfl a rfl) ?_
 obtain⟨x1,b,hm⟩:=Qd hm
 refine qe rfl (eC Qqt rfl (Qtw b)) ?_
 rintro _ w2 ⟨rfl,G2⟩
 have z3:=G2.size
 refine qn 5 rfl<|Qa<|Qj ?_
 refine qg 2 rfl<|qn 2 rfl<|Qa<|Qs ?_
 have X4:=(((Gr.refl w).trans G1).trans G2)
 cases hm
 exact⟨_,_,rfl,Xj rfl (Qn rfl),rfl,X4⟩
theorem Qub {p0 p1 p2 r}(hm:Qhv p0 p1 p2=some r){w:World}:
 Calls Tryz.prog 220 [wv p0,wv p1,wv p2].toArray w fun e w'=>∃ v,e=.returned v∧(v=wv r∧Gr w w'):=by
 unfold Qhv at hm
 refine Xu 14 Tryz.func220 rfl rfl rfl<|qs 1 rfl<|qm rfl<|qd 8 rfl ?_
 refine qn 2 rfl<|qv rfl (Eg (a:=p1) (b:=p0) rfl rfl)<|qm rfl<|qv rfl (Qe7 (a:=p1+p0) (b:=p2) rfl rfl)<|qm rfl ?_
 obtain⟨x1,f,hm⟩:=Qd hm
 refine qv rfl (Tf (c:=(p1+p0)-p2) (d:=p0) rfl rfl f)<|qm rfl<|Qa<|Qs ?_
 cases hm
 exact⟨_,_,rfl,Xj rfl (Qn rfl),rfl,(Gr.refl w)⟩
theorem Qtv {p0 p1 r}(hm:Qhe p0 p1=some r){w:World}:
 Calls Tryz.prog 305 [wv p0,wv p1].toArray w fun e w'=>∃ v,e=.returned v∧(v=.tuple [wv r.1,.int .i64 r.2].toArray∧Gr w w'):=by
 unfold Qhe at hm
 refine Xu 50 Tryz.func305 rfl rfl rfl<|qs 2 rfl<|qn 2 rfl<|Qa<|Qj ?_
 refine qs 3 rfl<|qm rfl ?_
 obtain⟨x1,n,hm⟩:=Qd hm
 refine qe rfl (eC Qkp rfl (Qmn n)) ?_
 rintro _ w1 ⟨rfl,G1⟩
 have z1:=G1.size
 refine qv rfl (Jj rfl)<|Qa<|Zw hm rfl (fun c1 hm=>?_) (fun c1 hm=>?_)
 · refine qs 2 rfl<|qn 2 rfl<|Qa<|Qs<|Zb ?_
   have X2:=((Gr.refl w).trans G1)
   cases hm
   exact⟨_,_,rfl,Xy rfl (Qn rfl) (Qn rfl),rfl,X2⟩
 refine qu<|Qj<|dw [([])] [] (.leaf [(0,10),(1,10),(2,10),(3,10),(4,10),(5,10),(6,10),(7,10)]) ?_
 intro w2 G2 q
 refine Xo<|dm 0 rfl rfl<|dh 0 rfl rfl (fun w hS=>Fo Ad rfl)<|dm 0 rfl rfl<|dm 0 rfl rfl ?_
 obtain⟨x2,o,hm⟩:=Qd hm
 refine dh 0 rfl rfl (fun w hS=>Tf (c:=p0) (d:=p1) rfl rfl o)<|dh 0 rfl rfl (fun w hS=>Fo Ad rfl)<|dm 0 rfl rfl<|dm 0 rfl rfl<|qd 2 rfl ?_
 refine qn 2 rfl<|Qa<|Qj<|Xz ?_
 have X3:=(((Gr.refl w).trans G1).trans G2)
 refine Kb (α:=Nat × Int × Int × Int × Int) (rg 6 5++rg 20 17) (fun⟨n1,a7,a8,a9,f⟩=>[(6,.int .i64 a7),(7,.int .i64 a8),(8,.int .i64 a9),(9,.int .i64 f)]) (fun⟨n1,a7,a8,a9,f⟩ wr=>(Xq (Qcr p1) n1 (a7,a8,a9,f)=some r)∧Kz [] w2 wr) (fun⟨n1,a7,a8,a9,f⟩=>n1) ⟨Ze,Qp (un p1),Qp (un x2),0,1⟩ ?_ ?_ ?_
 · exact Qh
 · exact⟨hm,Kz.refl _ _⟩
 clear hm;rintro⟨n1,a7,a8,a9,f⟩ w3 ⟨hm,K3⟩
 have z4:=K3.size
 have hb:=Kd hm;clear hm;obtain⟨n1,rfl,hm⟩:=hb
 generalize h:Xq (Qcr p1) n1=p at hm
 unfold Qcr at hm
 try dsimp only at hm
 refine Qj<|qs 2 rfl<|qm rfl<|qv rfl (Zp (a:=a8) (b:=0) rfl rfl)<|Qa<|Zv hm rfl (fun c2 hm=>?_) (fun c2 hm=>?_)
 · refine qu<|Xz<|qs 4 rfl<|qn 2 rfl ?_
   obtain⟨g,i,hm⟩:=Qd hm
   refine qv rfl (Nj (a:=a7) (b:=a8) rfl rfl i)<|qm rfl<|qd 8 rfl<|qn 2 rfl ?_
   refine qn 2 rfl<|qv rfl (Wj (k:=.i64) (a:=g) (b:=a8) rfl rfl)<|qv rfl (Ys (k:=.i64) (a:=a7) (b:=Qp (g*a8)) rfl rfl)<|qn 2 rfl<|Qa ?_
   refine qg 8 rfl<|qn 4 rfl<|qv rfl (Wj (k:=.i64) (a:=g) (b:=f) rfl rfl)<|qv rfl (Ys (k:=.i64) (a:=a9) (b:=Qp (g*f)) rfl rfl) ?_
   refine qn 2 rfl<|Qi<|Zo ?_
   have K_5:Kz [] w2 w3:=K3
   subst h
   exact⟨rfl,⟨n1,a8,Qp (a7-(Qp (g*a8))),f,Qp (a9-(Qp (g*f)))⟩,Qh,⟨hm,K_5⟩,Nat.lt_succ_self _⟩
 refine Jl<|Zd<|Zd<|Jk<|Zg<|Qj<|Qj ?_
 refine qg 2 rfl<|qm rfl<|qv rfl (Zp (a:=a7) (b:=1) rfl rfl)<|Qa<|Zv hm rfl (fun c3 hm=>?_) (fun c3 hm=>?_)
 · refine qs 2 rfl<|qn 2 rfl<|Qa<|Qs<|Zb ?_
   have X6:=(X3.kz K3)
   cases hm
   exact⟨_,_,rfl,Xy rfl (Qn rfl) (Qn rfl),rfl,X6⟩
 refine qu<|qs 13 rfl<|qn 2 rfl<|qv rfl (Fo Ad rfl) ?_
 obtain⟨j,l,hm⟩:=Qd hm
 refine qv rfl (Db (a:=a9) (b:=Qp (un p1)) rfl rfl l)<|qm rfl<|qv rfl (Fo Ad rfl)<|qv rfl (Zy (k:=.i64) (a:=j) (b:=Qp (un p1)) rfl rfl)<|qm rfl<|qv rfl (Fo Ad rfl) ?_
 obtain⟨s,m,hm⟩:=Qd hm
 refine qv rfl (Db (a:=Qp (j+(Qp (un p1)))) (b:=Qp (un p1)) rfl rfl m)<|qv rfl (Yr Qpm rfl)<|qn 2 rfl<|Qa<|Qs ?_
 have X7:=(X3.kz K3)
 cases hm
 exact⟨_,_,rfl,Xy rfl (Qn rfl) (Qn rfl),rfl,X7⟩
theorem Qua {p0 p1 p2 r}(hm:Qhu p0 p1 p2=some r){w:World}:
 Calls Tryz.prog 221 [wv p0,wv p1,wv p2].toArray w fun e w'=>∃ v,e=.returned v∧(v=wv r∧Gr w w'):=by
 unfold Qhu at hm
 refine Xu 20 Tryz.func221 rfl rfl rfl<|qs 1 rfl<|qm rfl<|qd 8 rfl ?_
 refine qn 2 rfl ?_
 obtain⟨x1,b,hm⟩:=Qd hm
 refine qe rfl (eC Qqw rfl (Qtv b)) ?_
 rintro _ w1 ⟨rfl,G1⟩
 have z1:=G1.size
 refine qn 5 rfl<|Qa<|Qj ?_
 refine qg 6 rfl<|qn 3 rfl<|qe rfl (Ko [p1,x1.1] Wi Em rfl rfl (Ks rfl) rfl rfl rfl) ?_
 rintro f w2 ⟨g,d,a,G2⟩
 have z2:=G2.size
 have h:=a.lth
 obtain⟨x2,c,hm⟩:=Qd hm
 refine qe rfl (eC Ah rfl (Iz c (Qe.rd a))) ?_
 rintro _ w3 ⟨rfl,G3⟩
 have z4:=G3.size
 refine qm rfl<|Qa<|Qs ?_
 have X5:=((((Gr.refl w).trans G1).trans G2).trans G3)
 cases hm
 exact⟨_,_,rfl,Xj rfl (Qn rfl),rfl,X5⟩
theorem Qhy {p0 r}(hm:Qdc p0=some r){w:World}:
 Calls Tryz.prog 222 [wv p0].toArray w fun e w'=>∃ v,e=.returned v∧(v=kv r∧Gr w w'):=by
 unfold Qdc at hm
 refine Xu 6 Tryz.func222 rfl rfl rfl<|qs 1 rfl<|qe rfl (Qz (cs:=kb k0) Jq rfl) ?_
 rintro _ w1 ⟨b1,rfl,c,a,G1⟩
 have z1:=G1.size
 have d:=a.lt
 refine qd 4 rfl<|qv rfl (Ho Hh)<|qm rfl<|qe rfl (eC Wn rfl (Wm k0 (Xr 42#8) (Wf _) (Wc _) p0 _)) ?_
 rintro _ w2 ⟨rfl,G2⟩
 have z3:=G2.size
 have B4:=(a.gr G2)
 refine qe rfl (Qr Qy rfl rfl rfl B4 rfl rfl) ?_
 rintro _ w3 ⟨b,M3⟩
 have z5:=M3.size
 refine Qa<|Qs ?_
 have X6:=((((Gr.refl w).trans G1).trans G2).md M3)
 cases hm
 exact⟨_,_,rfl,Xj rfl (Zf Qy rfl b rfl),rfl,X6⟩
theorem Qu6 {p0 p1 p2 vp1_1 zp1_1 gp1_1 op1_1 vp2_0 zp2_0 gp2_0 op2_0 vp2_2 zp2_2 gp2_2 op2_2 r}(hm:Qhm p0 p1 p2=some r){w:World}(C:Rd w zp1_1 gp1_1 op1_1 18 vp1_1 (p1.Labels.map Zr.cs))(D:Rd w zp2_0 gp2_0 op2_0 18 vp2_0 (p2.Items.map Zc.cs))(E:Rd w zp2_2 gp2_2 op2_2 2 vp2_2 (p2.Points.map Qx.cs)):
 Calls Tryz.prog 121 [.agg (Xn.cs p0).toArray,.agg (Xt.cs p1 vp1_1).toArray,.agg (Qq.cs p2 vp2_0 vp2_2).toArray].toArray w fun e w'=>∃ v,e=.returned v∧(v=.tuple [kv r.1,.int .i64 r.2].toArray∧Gr w w'):=by
 have aK:=C.lth
 have aL:=D.lth
 have aM:=E.lth
 unfold Qhm at hm
 refine Xu 111 Tryz.func121 rfl rfl rfl<|qs 5 rfl<|qe rfl (Xp (cs:=Xn.cs p0) rfl rfl) ?_
 rintro _ w1 ⟨b1,rfl,cJ,aN,G1⟩
 have z4:=G1.size
 have dv:=aN.lt
 refine qe rfl (Xp (cs:=Xt.cs p1 vp1_1) rfl rfl) ?_
 rintro _ w2 ⟨b2,rfl,cK,aO,G2⟩
 have z6:=G2.size
 have dy:=aO.lt
 refine qe rfl (Xp (cs:=Qq.cs p2 vp2_0 vp2_2) rfl rfl) ?_
 rintro _ w3 ⟨b3,rfl,cL,aP,G3⟩
 have z8:=G3.size
 have dz:=aP.lt
 refine qe rfl (Qz (cs:=kb k0) Jq rfl) ?_
 rintro _ w4 ⟨b4,rfl,cM,y,G4⟩
 have dA:=G4.size
 have cN:=y.lt
 refine qm rfl<|Qa<|Qj<|qs 3 rfl ?_
 have Y1:=Gr.trans (Gr.trans G2 G3) G4
 have aQ:=(aN.gr Y1)
 refine qv rfl (Qu Jr rfl aQ rfl) ?_
 obtain⟨x1,bM,hm⟩:=Qd hm
 refine qe rfl (eC Qb2 rfl (Qdi bM)) ?_
 rintro _ w5 ⟨rfl,G5⟩
 have dB:=G5.size
 refine qv rfl (Jj rfl)<|Qa<|Zw hm rfl (fun c1 hm=>?_) (fun c1 hm=>?_)
 · refine qs 3 rfl<|qv rfl (Ho Hh) ?_
   have bN:=(y.gr G5)
   refine qe rfl (Qr Qy rfl rfl rfl bN rfl rfl) ?_
   rintro _ w6 ⟨bO,M6⟩
   have dC:=M6.size
   refine qm rfl<|qb ?_
   have Y2:=Gr.trans (Gr.trans G1 Y1) G5
   have bP:=(((Gr.refl w).trans Y2).md M6)
   cases hm
   exact⟨_,_,rfl,Xy rfl (Zf Qy rfl bO rfl) (Qn rfl),rfl,bP⟩
 refine qu<|Qj<|qs 5 rfl ?_
 have aR:=(aQ.gr G5)
 refine qv rfl (Qu Jr rfl aR rfl) ?_
 have Y3:=Gr.trans (Gr.trans G3 G4) G5
 have aS:=(aO.gr Y3)
 refine qv rfl (Qu Vf rfl aS rfl) ?_
 have Y4:=Gr.trans G4 G5
 have aT:=(aP.gr Y4)
 refine qv rfl (Qu Jw rfl aT rfl) ?_
 have Y5:=Gr.trans (Gr.trans G1 Y1) G5
 have aU:=(C.gr Y5)
 have aV:=(D.gr Y5)
 have aW:=(E.gr Y5)
 obtain⟨x2,bQ,hm⟩:=Qd hm
 refine qe rfl (eC Qqj rfl (Quc bQ aU aV aW)) ?_
 rintro _ w7 ⟨rfl,G7⟩
 have dD:=G7.size
 refine qv rfl (Jj rfl)<|Qa<|Zw hm rfl (fun c2 hm=>?_) (fun c2 hm=>?_)
 · refine qs 3 rfl<|qv rfl (Ho Hh) ?_
   have Y6:=Gr.trans G5 G7
   have bR:=(y.gr Y6)
   refine qe rfl (Qr Qy rfl rfl rfl bR rfl rfl) ?_
   rintro _ w8 ⟨bS,M8⟩
   have dE:=M8.size
   refine qm rfl<|qb ?_
   have bT:=((((Gr.refl w).trans Y5).trans G7).md M8)
   cases hm
   exact⟨_,_,rfl,Xy rfl (Zf Qy rfl bS rfl) (Qn rfl),rfl,bT⟩
 refine qu<|Qj<|dw [([])] [] (.leaf [(0,10),(1,10),(2,10),(3,10),(4,10),(5,10),(6,10),(7,10),(8,10),(12,10),(13,10),(9,0),(10,10),(11,0),(14,0),(15,10)]) ?_
 intro w9 G9 dF
 refine Xo<|dh 0 rfl rfl (fun w hS=>Qg Qcg rfl)<|dh 0 rfl rfl (fun w hS=>Qg Nb rfl) ?_
 have Y7:=Gr.trans G7 G9
 have aX:=(aS.gr Y7)
 refine dh 0 rfl rfl (fun w hS=>Ql (v:=wv p1.Share.X) Zh rfl (Bx.kp aX hS) rfl) ?_
 have aY:=(aR.gr Y7)
 refine dh 0 rfl rfl (fun w hS=>Qu Jr rfl (Bx.kp aY hS) rfl)<|dh 0 rfl rfl (fun w hS=>Qg Gb rfl) ?_
 have I:=(aT.gr Y7)
 refine dh 0 rfl rfl (fun w hS=>Ql (v:=wv p2.Base) Zh rfl (Bx.kp I hS) rfl)<|dh 0 rfl rfl (fun w hS=>Qg Qcg rfl)<|dh 0 rfl rfl (fun w hS=>Qg Ug rfl)<|dh 0 rfl rfl (fun w hS=>Ql (v:=wv p1.Share.Y) Zh rfl (Bx.kp aX hS) rfl)<|dh 0 rfl rfl (fun w hS=>Qg Yk rfl)<|dh 0 rfl rfl (fun w hS=>Ql (v:=vp2_2) Yi rfl (Bx.kp I hS) rfl) ?_
 obtain⟨x3,bU,hm⟩:=Qd hm
 refine qz [] rfl (eC Ag rfl (Oa bU)) ⟨fun _=>Qb,trivial⟩ ?_
 rintro _ dG ⟨rfl,F⟩
 have dH:=F.size
 refine kG F ?_
 have aZ:=((Kp.refl ([]) w9).gr F)
 refine qh 0 rfl rfl aZ (fun w hS=>Zk (cs:=Qx.cs (Qx.mk p1.Share.X x3)) Cs rfl rfl)<|qz [] rfl (Ko [(Qx.mk p1.Share.X x3)] Qx.cs Rc rfl rfl (Ks rfl) rfl rfl rfl) ⟨fun _=>Qb,trivial⟩ ?_
 rintro cO dI ⟨d,bV,V,G⟩
 have dJ:=G.size
 have cP:=V.lth
 refine kG G ?_
 have Y8:=Gr.trans (Gr.trans Y7 F) G
 have a0:=(aW.gr Y8)
 obtain⟨l4,bW,hm⟩:=Qd hm
 refine qz [(1,d)] rfl (Wo (l:=[(Qx.mk p1.Share.X x3)]) (m:=p2.Points) (c:=Qx.cs) Lz rfl rfl V a0 bW (by decide)) ⟨fun _=>(Qc ((.inr Qb):1=0∨w9.heap.size≤d)),trivial⟩ ?_
 rintro cQ dK ⟨cR,cS,W,f,a1,cT⟩
 have dL:=f.size
 refine⟨Kz.ofKa f,?_⟩
 have bX:=((aZ.gr G).ka f (Qc ((.inr Qb):1=0∨w9.heap.size≤d)))
 refine dn 0 rfl rfl bX<|Qa<|Qj<|qs 3 rfl<|qm rfl ?_
 obtain⟨x5,bY,hm⟩:=Qd hm
 refine qe rfl (eC Qkc rfl (Qmu bY (Qe.rd W))) ?_
 rintro _ a2 ⟨rfl,g⟩
 have dM:=g.size
 refine qv rfl (Jj rfl)<|Qa<|Zw hm rfl (fun c3 hm=>?_) (fun c3 hm=>?_)
 · refine qs 3 rfl<|qv rfl (Ho Hh) ?_
   have Y9:=Gr.trans G5 Y8
   have bZ:=(((y.gr Y9).ka f (Qc ((.inr Qb):1=0∨d≠b4))).gr g)
   refine qe rfl (Qr Qy rfl rfl rfl bZ rfl rfl) ?_
   rintro _ dN ⟨a3,a4⟩
   have dO:=a4.size
   refine qm rfl<|qb ?_
   have b0:=((((((Gr.refl w).trans Y5).trans Y8).ka f (Qc ((.inr Qb):1=0∨w.heap.size≤d))).trans g).md a4)
   cases hm
   exact⟨_,_,rfl,Xy rfl (Zf Qy rfl a3 rfl) (Qn rfl),rfl,b0⟩
 refine qu<|qs 5 rfl<|qv rfl (Qg Pt rfl)<|qv rfl (Qg Tx rfl) ?_
 have al:=Gr.trans F G
 have a5:=(((aY.gr al).ka f (Qc ((.inr Qb):1=0∨d≠b1))).gr g)
 refine qv rfl (Ql (v:=wv p0.Group.Q) Zh rfl a5 rfl)<|qn 2 rfl<|Qa<|Qj<|qs 3 rfl ?_
 refine qm rfl ?_
 have a6:=(W.gr g)
 refine qv rfl (Zx (l:=l4) (c:=Qx.cs) Tryz.underlying51 rfl (Qe.rd a6))<|qm rfl<|Qa<|Xz ?_
 have a7:=(((((Gr.refl w).trans Y5).trans Y8).ka f (Qc ((.inr Qb):1=0∨w.heap.size≤d))).trans g)
 have b5:=(((aU.gr Y8).ka f (Qc ((Kh (.inr (Qc aK.o))):zp1_1=0∨1=0∨gp1_1≠d))).gr g)
 have b6:=(((aV.gr Y8).ka f (Qc ((Kh (.inr (Qc aL.o))):zp2_0=0∨1=0∨gp2_0≠d))).gr g)
 have b7:=((a0.ka f (Qc ((Kh (.inr (Qc aM.o))):zp2_2=0∨1=0∨gp2_2≠d))).gr g)
 refine Kb (α:=Nat × BitVec 64 × Int) (rg 10 7++rg 52 47) (fun⟨n1,a8,a9⟩=>[(10,wv a8),(52,.int .i64 a9)]) (fun⟨n1,a8,a9⟩ wr=>(Xq (Qd1 p0 p2 l4) n1 (a8,a9)=some r)∧Kz [] a2 wr) (fun⟨n1,a8,a9⟩=>n1) ⟨Ze,1#64,0⟩ ?_ ?_ ?_
 · exact Qh
 · exact⟨hm,Kz.refl _ _⟩
 clear hm;rintro⟨n1,a8,a9⟩ ba ⟨hm,j⟩
 have dP:=j.size
 have hb:=Kd hm;clear hm;obtain⟨n1,rfl,hm⟩:=hb
 generalize am:Xq (Qd1 p0 p2 l4) n1=Z at hm
 unfold Qd1 at hm
 try dsimp only at hm
 refine qs 1 rfl<|qv rfl (Jb (a:=a9) (b:=(l4.length:Int)) rfl rfl)<|Qa<|Qj<|Kg hm rfl (fun c4 hm=>?_) (fun c4 hm=>?_)
 · refine Jl<|Zd<|Zd<|Jk<|Zg ?_
   have bb:=(a7.kz j)
   refine qj (β:=W2 × Nat) ([17]++rg 99 5) (fun⟨z,bq24⟩=>[(17,.pointer (some ⟨bq24,0,none⟩))]) (fun⟨z,bq24⟩ wr=>(Qhn p2 z=some r)∧Bx wr bq24 36 (kb z)∧ba.heap.size≤bq24∧Kz [] ba wr) ?_ ?_
   · refine dw [([])] [] (.fork [(0,10),(2,10),(3,10)] (.fork [(1,0)] (.leaf [(4,0),(5,0),(6,0)]) (.leaf [(5,0),(4,0),(6,0)])) (.leaf [(5,0),(1,0),(4,0),(6,0)])) ?_
     intro dQ J cU
     refine Zt<|dm 0 rfl rfl<|dh 0 rfl rfl (fun w hS=>Qg Gc rfl) ?_
     have b8:=(((((I.gr al).ka f (Qc ((.inr Qb):1=0∨d≠b3))).gr g).kz j).gr J)
     refine dh 0 rfl rfl (fun w hS=>Jm (vs:=kb p2.Box) Qy rfl (Bx.kp b8 hS) rfl rfl)<|Zs ?_ ?_
     · refine Zt ?_
       obtain⟨K,bc,hm⟩:=Qd hm
       refine qz [] rfl (eC Qfk rfl (Qhy bc)) ⟨fun _=>Qb,trivial⟩ ?_
       rintro _ dR ⟨rfl,L⟩
       have dS:=L.size
       refine kG L<|Zs ?_ ?_
       · refine Xo<|qz [] rfl (eC Qb4 rfl (Qb1 K p2.Box _)) ⟨fun _=>Qb,trivial⟩ ?_
         rintro _ dT ⟨rfl,an⟩
         have dU:=an.size
         refine kG an<|qz [] rfl (Qz (cs:=kb k0) Jq rfl) ⟨fun _=>Qb,trivial⟩ ?_
         rintro _ dV ⟨bd,rfl,b9,aa,ao⟩
         have cV:=ao.size
         have ca:=aa.lt
         refine kG ao<|qz [(1,bd)] rfl (Qr Qy rfl rfl rfl aa rfl rfl) ⟨fun _=>Qb,trivial⟩ ?_
         rintro _ dW ⟨be,ap⟩
         have cW:=ap.size
         refine kM ap<|Qi ?_
         exact⟨rfl,⟨Nx K p2.Box,bd⟩,Qh,hm,be,(by omega),(((((Xi.gr J).gr L).gr an).gr ao).md ap)⟩
       refine Xo<|qz [] rfl (Qz (cs:=kb k0) Jq rfl) ⟨fun _=>Qb,trivial⟩ ?_
       rintro _ dX ⟨bf,rfl,cb,ab,aq⟩
       have cX:=aq.size
       have cc:=ab.lt
       refine kG aq<|qz [] rfl (eC Qb4 rfl (Qb1 K p2.Box _)) ⟨fun _=>Qb,trivial⟩ ?_
       rintro _ dY ⟨rfl,M⟩
       have cY:=M.size
       refine kG M ?_
       have bg:=(ab.gr M)
       refine qz [(1,bf)] rfl (Qr Qy rfl rfl rfl bg rfl rfl) ⟨fun _=>Qb,trivial⟩ ?_
       rintro _ dZ ⟨bh,ar⟩
       have cZ:=ar.size
       refine kM ar<|Qi ?_
       exact⟨rfl,⟨Nx K p2.Box,bf⟩,Qh,hm,bh,(by omega),(((((Xi.gr J).gr L).gr aq).gr M).md ar)⟩
     refine Xo<|qz [] rfl (Qz (cs:=kb k0) Jq rfl) ⟨fun _=>Qb,trivial⟩ ?_
     rintro _ d0 ⟨bi,rfl,cd,ac,au⟩
     have c0:=au.size
     have ce:=ac.lt
     refine kG au ?_
     obtain⟨bj,bk,hm⟩:=Qd hm
     refine qz [] rfl (eC Qfk rfl (Qhy bk)) ⟨fun _=>Qb,trivial⟩ ?_
     rintro _ d1 ⟨rfl,N⟩
     have c8:=N.size
     refine kG N<|qz [] rfl (eC Qb4 rfl (Qb1 bj p2.Box _)) ⟨fun _=>Qb,trivial⟩ ?_
     rintro _ d2 ⟨rfl,O⟩
     have c9:=O.size
     refine kG O ?_
     have bl:=((ac.gr N).gr O)
     refine qz [(1,bi)] rfl (Qr Qy rfl rfl rfl bl rfl rfl) ⟨fun _=>Qb,trivial⟩ ?_
     rintro _ d3 ⟨bm,av⟩
     have da:=av.size
     refine kM av<|Qi ?_
     exact⟨rfl,⟨Nx bj p2.Box,bi⟩,Qh,hm,bm,(by omega),(((((Xi.gr J).gr au).gr N).gr O).md av)⟩
   clear hm;rintro⟨z,bq24⟩ d4 ⟨hm,x,bL,A⟩
   have d5:=A.size
   have db:=x.lt
   unfold Qhn at hm
   refine Qj<|Qj<|dw [([])] [] (.leaf [(0,10),(2,10),(3,10),(1,0),(4,10)]) ?_
   intro cg R dc
   refine Xo ?_
   have bn:=(x.gr R)
   refine dh 0 rfl rfl (fun w hS=>Qu Qy rfl (Bx.kp bn hS) rfl)<|dh 0 rfl rfl (fun w hS=>Qg Gz rfl) ?_
   have ch:=((((((I.gr al).ka f (Qc ((.inr Qb):1=0∨d≠b3))).gr g).kz j).kz A).gr R)
   refine dh 0 rfl rfl (fun w hS=>Jm (vs:=kb p2.Check) Qy rfl (Bx.kp ch hS) rfl rfl)<|qz [] rfl (eC Wn rfl (Wm z (Xr 53#8) (Wf _) (Wc _) 0#64 _)) ⟨fun _=>Qb,trivial⟩ ?_
   rintro _ d6 ⟨rfl,B⟩
   have d7:=B.size
   refine kG B ?_
   have ci:=((Kp.refl ([]) cg).gr B)
   refine qh 0 rfl rfl ci (fun w hS=>Gj (cf:=kb) (a:=Ki z (Xr 53#8) 0#64) (b:=p2.Check) Gx rfl rfl rfl rfl (fun h=>Dh h))<|Qa<|Zv hm rfl (fun c7 hm=>?_) (fun c7 hm=>?_)
   · refine qs 3 rfl<|qv rfl (Ho Hh) ?_
     have cj:=Gr.trans G5 Y8
     have bo:=Gr.trans R B
     have ck:=((((((y.gr cj).ka f (Qc ((.inr Qb):1=0∨d≠b4))).gr g).kz j).kz A).gr bo)
     refine qe rfl (Qr Qy rfl rfl rfl ck rfl rfl) ?_
     rintro _ d8 ⟨bp,bq⟩
     have d9:=bq.size
     refine qm rfl<|qb ?_
     have cl:=(((bb.kz A).trans bo).md bq)
     cases hm
     exact⟨_,_,rfl,Xy rfl (Zf Qy rfl bp rfl) (Qn rfl),rfl,cl⟩
   refine qu<|qs 3 rfl ?_
   have cm:=(bn.gr B)
   refine qv rfl (Qu Qy rfl cm rfl) ?_
   have cn:=Gr.trans G5 Y8
   have br:=Gr.trans R B
   have co:=((((((y.gr cn).ka f (Qc ((.inr Qb):1=0∨d≠b4))).gr g).kz j).kz A).gr br)
   refine qe rfl (Qr Qy rfl rfl rfl co rfl rfl) ?_
   rintro _ ea ⟨bs,bu⟩
   have eb:=bu.size
   refine qm rfl<|Qa<|Qs ?_
   have cp:=(((bb.kz A).trans br).md bu)
   cases hm
   exact⟨_,_,rfl,Xy rfl (Zf Qy rfl bs rfl) (Qn rfl),rfl,cp⟩
 refine qu<|Qj<|Xz<|qs 6 rfl<|qm rfl ?_
 obtain⟨S,ad,hm⟩:=Qd hm
 have aw:=(a6.kz j)
 refine qv rfl (Vm (i:=a9) Tryz.underlying51 (Vq).siz rfl (Qe.rd aw) rfl ad)<|qv rfl (He Vq rfl (Qe.rd aw) ad (by first|rfl|omega))<|qe rfl (Qz (cs:=Qx.cs (Qx.mk 0#64 0#64)) Fu rfl) ?_
 rintro _ ec ⟨ed,rfl,cq,ae,p⟩
 have ee:=p.size
 have dd:=ae.lt
 refine qm rfl<|qe rfl (Qr Vq rfl rfl rfl ae rfl rfl) ?_
 rintro _ ax ⟨af,q⟩
 have ef:=q.size
 refine qd 2 rfl<|qn 2 rfl<|Qa<|Qj ?_
 refine qs 3 rfl<|qm rfl ?_
 have bw:=((aw.gr p).md q (Qm a1))
 refine qv rfl (Zx (l:=l4) (c:=Qx.cs) Tryz.underlying51 rfl (Qe.rd bw))<|qm rfl<|Qa<|Xz ?_
 have eg:=(((a7.kz j).trans p).md q)
 have eh:=(((b5.kz j).gr p).md q (Qm aK))
 have ei:=(((b6.kz j).gr p).md q (Qm aL))
 have ej:=(((b7.kz j).gr p).md q (Qm aM))
 refine Kb (α:=Nat × BitVec 64 × BitVec 64 × Int) ([13,14,15,16]++rg 59 25) (fun⟨n2,t,u,n⟩=>[(13,wv t),(14,wv u),(59,.int .i64 n)]) (fun⟨n2,t,u,n⟩ wr=>(Xq (Qd2 p0 l4 a8 a9 Z S) n2 (t,u,n)=some r)∧Kz [] ax wr) (fun⟨n2,t,u,n⟩=>n2) ⟨Ze,1#64,1#64,0⟩ ?_ ?_ ?_
 · exact Qh
 · exact⟨hm,Kz.refl _ _⟩
 clear hm;rintro⟨n2,t,u,n⟩ ek ⟨hm,s⟩
 have el:=s.size
 have hb:=Kd hm;clear hm;obtain⟨n2,rfl,hm⟩:=hb
 generalize H:Xq (Qd2 p0 l4 a8 a9 Z S) n2=de at hm
 unfold Qd2 at hm
 try dsimp only at hm
 refine qs 1 rfl<|qv rfl (Jb (a:=n) (b:=(l4.length:Int)) rfl rfl)<|Qa<|Qj<|Kg hm rfl (fun c5 hm=>?_) (fun c5 hm=>?_)
 · refine Jl<|Zd<|Zd<|Jk<|Zg<|dw [([])] [] (.leaf [(0,10),(1,10),(2,10),(3,10),(4,10),(5,10),(6,10),(7,10),(8,10),(9,10),(10,0),(11,0),(12,0),(13,0),(14,10)]) ?_
   intro cr ay df
   refine Xo<|dh 0 rfl rfl (fun w hS=>Qg Pt rfl)<|dh 0 rfl rfl (fun w hS=>Qg Sw rfl) ?_
   have bx:=(((((a5.kz j).gr p).md q).kz s).gr ay)
   refine dh 0 rfl rfl (fun w hS=>Ql (v:=wv p0.Group.P) Zh rfl (Bx.kp bx hS) rfl)<|dm 0 rfl rfl<|dh 0 rfl rfl (fun w hS=>Qu Jr rfl (Bx.kp bx hS) rfl)<|dh 0 rfl rfl (fun w hS=>Qg Ug rfl) ?_
   have ct:=((af.kz s).gr ay)
   refine dh 0 rfl rfl (fun w hS=>Ql (v:=wv S.Y) Zh rfl (Bx.kp ct hS) rfl)<|dm 0 rfl rfl<|dm 0 rfl rfl<|dm 0 rfl rfl ?_
   obtain⟨em,bz,hm⟩:=Qd hm
   refine qz [] rfl (eC Qql rfl (Qua bz)) ⟨fun _=>Qb,trivial⟩ ?_
   rintro _ en ⟨rfl,az⟩
   have eo:=az.size
   refine kG az ?_
   obtain⟨cu,bA,hm⟩:=Qd hm
   refine qz [] rfl (eC Ag rfl (Oa bA)) ⟨fun _=>Qb,trivial⟩ ?_
   rintro _ ep ⟨rfl,aA⟩
   have er:=aA.size
   refine kG aA<|qz [] rfl (Ko [a8,cu] Wi Em rfl rfl (Ks rfl) rfl rfl rfl) ⟨fun _=>Qb,trivial⟩ ?_
   rintro dg es ⟨di,cv,ag,aB⟩
   have et:=aB.size
   have dj:=ag.lth
   refine kG aB ?_
   obtain⟨cw,bB,hm⟩:=Qd hm
   refine qz [] rfl (eC Ah rfl (Iz bB (Qe.rd ag))) ⟨fun _=>Qb,trivial⟩ ?_
   rintro _ cx ⟨rfl,aC⟩
   have eu:=aC.size
   refine kG aC ?_
   have bC:=Gr.trans (Gr.trans (Gr.trans az aA) aB) aC
   have cy:=((Kp.refl ([]) cr).gr bC)
   refine dn 0 rfl rfl cy<|Qi<|Zo<|Zg<|qg 2 rfl<|qv rfl (Zy (k:=.i64) (a:=a9) (b:=1) rfl rfl)<|qm rfl ?_
   refine Qi ?_
   have K_82:Kz [] a2 cx:=(((((j.gr p).md q).kz s).gr ay).gr bC)
   subst am
   exact⟨rfl,⟨n1,cw,Qp (a9+1)⟩,Qh,⟨hm,K_82⟩,Nat.lt_succ_self _⟩
 refine qu<|Qj<|Xz<|qs 6 rfl<|qm rfl ?_
 obtain⟨aD,ah,hm⟩:=Qd hm
 have bD:=(bw.kz s)
 refine qv rfl (Vm (i:=n) Tryz.underlying51 (Vq).siz rfl (Qe.rd bD) rfl ah)<|qv rfl (He Vq rfl (Qe.rd bD) ah (by first|rfl|omega))<|qe rfl (Qz (cs:=Qx.cs (Qx.mk 0#64 0#64)) Fu rfl) ?_
 rintro _ ew ⟨ex,rfl,cz,ai,T⟩
 have ey:=T.size
 have dk:=ai.lt
 refine qm rfl<|qe rfl (Qr Vq rfl rfl rfl ai rfl rfl) ?_
 rintro _ cA ⟨bE,U⟩
 have ez:=U.size
 refine qd 3 rfl<|qn 2 rfl<|qv rfl (Zp (a:=n) (b:=a9) rfl rfl)<|Qa ?_
 refine Kg hm rfl (fun c6 hm=>?_) (fun c6 hm=>?_)
 · refine Vl<|Zo<|Zg<|qg 2 rfl<|qv rfl (Zy (k:=.i64) (a:=n) (b:=1) rfl rfl)<|qm rfl<|Qi ?_
   have K_73:Kz [] ax cA:=((s.gr T).md U)
   subst H
   exact⟨rfl,⟨n2,t,u,Qp (n+1)⟩,Qh,⟨hm,K_73⟩,Nat.lt_succ_self _⟩
 refine dw [([])] [] (.leaf [(0,10),(1,10),(2,10),(3,10),(6,10),(7,10),(8,10),(9,10),(10,10),(11,10),(12,10),(4,0),(5,0),(13,0),(14,0),(15,0),(16,10),(17,10)]) ?_
 intro cB aE dl
 refine Xo<|dm 0 rfl rfl<|dm 0 rfl rfl<|dh 0 rfl rfl (fun w hS=>Qg Nb rfl) ?_
 have bF:=(bE.gr aE)
 refine dh 0 rfl rfl (fun w hS=>Ql (v:=wv aD.X) Zh rfl (Bx.kp bF hS) rfl)<|dm 0 rfl rfl<|dm 0 rfl rfl<|dm 0 rfl rfl<|dh 0 rfl rfl (fun w hS=>Qg Nb rfl)<|dh 0 rfl rfl (fun w hS=>Ql (v:=wv aD.X) Zh rfl (Bx.kp bF hS) rfl)<|dh 0 rfl rfl (fun w hS=>Qg Nb rfl) ?_
 have cC:=((((af.kz s).gr T).md U).gr aE)
 refine dh 0 rfl rfl (fun w hS=>Ql (v:=wv S.X) Zh rfl (Bx.kp cC hS) rfl)<|qz [] rfl (Ko [t,aD.X] Wi Em rfl rfl (Ks rfl) rfl rfl rfl) ⟨fun _=>Qb,trivial⟩ ?_
 rintro dp eA ⟨dq,cD,aj,aF⟩
 have eB:=aF.size
 have dr:=aj.lth
 refine kG aF ?_
 obtain⟨cE,bG,hm⟩:=Qd hm
 refine qz [] rfl (eC Ah rfl (Iz bG (Qe.rd aj))) ⟨fun _=>Qb,trivial⟩ ?_
 rintro _ eD ⟨rfl,aG⟩
 have eE:=aG.size
 refine kG aG ?_
 obtain⟨cF,bH,hm⟩:=Qd hm
 refine qz [] rfl (eC Qqk rfl (Qub bH)) ⟨fun _=>Qb,trivial⟩ ?_
 rintro _ eF ⟨rfl,aH⟩
 have eG:=aH.size
 refine kG aH<|qz [] rfl (Ko [u,cF] Wi Em rfl rfl (Ks rfl) rfl rfl rfl) ⟨fun _=>Qb,trivial⟩ ?_
 rintro ds eH ⟨dt,cG,ak,aI⟩
 have eI:=aI.size
 have du:=ak.lth
 refine kG aI ?_
 obtain⟨cH,bI,hm⟩:=Qd hm
 refine qz [] rfl (eC Ah rfl (Iz bI (Qe.rd ak))) ⟨fun _=>Qb,trivial⟩ ?_
 rintro _ cI ⟨rfl,aJ⟩
 have eJ:=aJ.size
 refine kG aJ ?_
 have bJ:=Gr.trans (Gr.trans (Gr.trans (Gr.trans aF aG) aH) aI) aJ
 have bK:=((Kp.refl ([]) cB).gr bJ)
 refine dn 0 rfl rfl bK<|dn 0 rfl rfl bK<|Qi<|Zo<|Zg<|qg 2 rfl<|qv rfl (Zy (k:=.i64) (a:=n) (b:=1) rfl rfl) ?_
 refine qm rfl<|Qi ?_
 have K_72:Kz [] ax cI:=((((s.gr T).md U).gr aE).gr bJ)
 subst H
 exact⟨rfl,⟨n2,cE,cH,Qp (n+1)⟩,Qh,⟨hm,K_72⟩,Nat.lt_succ_self _⟩
end Go.Proofs.YtplcaaglieefgaaGreat.Mx
