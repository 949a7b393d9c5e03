/- Walks that follow mirrors: Gc. Printed by mx.py. -/
import Derived.Test.YtopkalcefepilaaGreatGh
import Derived.Test.YtopkalcefepilaaGreatZd
set_option linter.unusedVariables false
set_option linter.unusedSimpArgs false
set_option maxRecDepth 100000
set_option maxHeartbeats 2000000
namespace Go.Proofs.YtopkalcefepilaaGreat.Mx
open Go Go.RowKit Go.Sx
theorem Qzi:En Tryz.prog 89:=fun _ _=>by kernel_rfl
theorem Qyk:En Tryz.prog 143:=fun _ _=>by kernel_rfl
theorem Qzh:En Tryz.prog 88:=fun _ _=>by kernel_rfl
theorem Qai:FA Tryz.prog 26 0 0:=fun _ _ _=>by kernel_rfl
theorem Qf7:En Tryz.prog 47:=fun _ _=>by kernel_rfl
theorem Qcw:FA Tryz.prog 26 1 1:=fun _ _ _=>by kernel_rfl
theorem Qqp:FA Tryz.prog 26 2 2:=fun _ _ _=>by kernel_rfl
theorem Qqq:FA Tryz.prog 26 3 3:=fun _ _ _=>by kernel_rfl
theorem Qqr:FA Tryz.prog 26 4 4:=fun _ _ _=>by kernel_rfl
theorem Qqs:FA Tryz.prog 26 5 5:=fun _ _ _=>by kernel_rfl
theorem Qws:Du Tryz.prog 30 3 3 1 [.int .i64 0,.int .i64 0,.int .i64 0]:=Nf Tryz.underlying30 (Qm).siz Sd rfl rfl (by kernel_rfl)
theorem Cz:ZV Tryz.prog 32 (.agg [.int .u8 0,.bool false,.int .i64 0,.int .i64 0,.int .i64 0,.int .i64 0,.int .i64 0,.slice none 0 0].toArray):=fun _=>by kernel_rfl
theorem Ib:Ky Tryz.prog 26 9:=fun _=>⟨by kernel_rfl,by kernel_rfl⟩
theorem Qyy:En Tryz.prog 29:=fun _ _=>by kernel_rfl
theorem Qej:BS Tryz.prog 32 (fun i=>[(0,1),(1,1),(2,1),(3,1),(4,1),(5,1),(6,1),(7,1)][i]?) [.int .u8 0,.bool false,.int .i64 0,.int .i64 0,.int .i64 0,.int .i64 0,.int .i64 0,.slice none 0 0]:=Dc Tryz.underlying32 Cz ⟨rfl,(Zb).siz,rfl,(Ns).siz,rfl,(Qm).siz,rfl,(Qm).siz,rfl,(Qm).siz,rfl,(Qm).siz,rfl,(Qm).siz,rfl,(Vr).siz,trivial⟩
theorem Wc:Ky Tryz.prog 32 8:=fun _=>⟨by kernel_rfl,by kernel_rfl⟩
theorem Qqt:FA Tryz.prog 26 6 6:=fun _ _ _=>by kernel_rfl
theorem Qcv:FA Tryz.prog 24 0 0:=fun _ _ _=>by kernel_rfl
theorem Qpr:En Tryz.prog 144:=fun _ _=>by kernel_rfl
theorem Bn:FA Tryz.prog 24 1 1:=fun _ _ _=>by kernel_rfl
theorem Qfh:FA Tryz.prog 24 2 2:=fun _ _ _=>by kernel_rfl
theorem Qps:En Tryz.prog 145:=fun _ _=>by kernel_rfl
theorem Bo:FA Tryz.prog 44 2 2:=fun _ _ _=>by kernel_rfl
theorem Fa:FA Tryz.prog 44 3 3:=fun _ _ _=>by kernel_rfl
theorem Qzj:En Tryz.prog 90:=fun _ _=>by kernel_rfl
theorem Wu:CV Tryz.prog 3 22 .u64:=fun _ _ _=>by kernel_rfl
theorem Qjy:En Tryz.prog 48:=fun _ _=>by kernel_rfl
theorem Qf4:En Tryz.prog 30:=fun _ _=>by kernel_rfl
theorem Qfm:FA Tryz.prog 32 3 3:=fun _ _ _=>by kernel_rfl
theorem Uw:FA Tryz.prog 32 5 5:=fun _ _ _=>by kernel_rfl
theorem Nd:Ky Tryz.prog 137 2:=fun _=>⟨by kernel_rfl,by kernel_rfl⟩
theorem Qiv:ZV Tryz.prog 137 (.agg [.int .i64 0,.int .i64 0].toArray):=fun _=>by kernel_rfl
theorem Qae:FA Tryz.prog 137 0 0:=fun _ _ _=>by kernel_rfl
theorem Qaf:FA Tryz.prog 137 1 1:=fun _ _ _=>by kernel_rfl
theorem Qjr:En Tryz.prog 127:=fun _ _=>by kernel_rfl
theorem Qpt:En Tryz.prog 147:=fun _ _=>by kernel_rfl
theorem Ut:FA Tryz.prog 120 0 0:=fun _ _ _=>by kernel_rfl
theorem Qxx:CV Tryz.prog 149 151 .u64:=fun _ _ _=>by kernel_rfl
theorem Qyi:En Tryz.prog 131:=fun _ _=>by kernel_rfl
theorem Uj:En Tryz.prog 129:=fun _ _=>by kernel_rfl
theorem Qym:En Tryz.prog 148:=fun _ _=>by kernel_rfl
theorem Qk2:En Tryz.prog 78:=fun _ _=>by kernel_rfl
theorem Qk4:En Tryz.prog 99:=fun _ _=>by kernel_rfl
theorem Qiw:ZV Tryz.prog 149 (.int .i64 0):=fun _=>by kernel_rfl
theorem Wp:Ku Tryz.prog 149:=fun _=>⟨by kernel_rfl,by kernel_rfl⟩
theorem Qfc:En Tryz.prog 98:=fun _ _=>by kernel_rfl
theorem Xdj:Ku Tryz.prog 155:=fun _=>⟨by kernel_rfl,by kernel_rfl⟩
theorem Qjs:En Tryz.prog 149:=fun _ _=>by kernel_rfl
theorem Qyh:En Tryz.prog 128:=fun _ _=>by kernel_rfl
theorem Qq5:En Tryz.prog 77:=fun _ _=>by kernel_rfl
theorem Qq8:En Tryz.prog 96:=fun _ _=>by kernel_rfl
theorem Qf9:En Tryz.prog 53:=fun _ _=>by kernel_rfl
theorem Qq1:En Tryz.prog 54:=fun _ _=>by kernel_rfl
theorem Qq4:En Tryz.prog 74:=fun _ _=>by kernel_rfl
theorem Ql6:Ku Tryz.prog 170:=fun _=>⟨by kernel_rfl,by kernel_rfl⟩
theorem Qfb:En Tryz.prog 76:=fun _ _=>by kernel_rfl
theorem Qei:BS Tryz.prog 137 (fun i=>[(0,1),(1,1)][i]?) [.int .i64 0,.int .i64 0]:=Dc Tryz.underlying137 Qiv ⟨rfl,(Qm).siz,rfl,(Qm).siz,trivial⟩
theorem Qq9:En Tryz.prog 97:=fun _ _=>by kernel_rfl
theorem Qyz:En Tryz.prog 32:=fun _ _=>by kernel_rfl
theorem Qfl:FA Tryz.prog 32 2 2:=fun _ _ _=>by kernel_rfl
theorem Qfn:FA Tryz.prog 32 7 7:=fun _ _ _=>by kernel_rfl
theorem Uv:FA Tryz.prog 32 4 4:=fun _ _ _=>by kernel_rfl
theorem Qcx:FA Tryz.prog 32 6 6:=fun _ _ _=>by kernel_rfl
theorem Qfk:FA Tryz.prog 32 1 1:=fun _ _ _=>by kernel_rfl
noncomputable def Qdx:Rp Xs:=Xf2 8 Xs.cs (fun a=>a.Witness) 1 ic (fun a v h=>⟨rfl,Xs.cs_ones a v h⟩)
theorem Qix:ZV Tryz.prog 29 (.agg [.slice none 0 0,.int .u8 0].toArray):=fun _=>by kernel_rfl
theorem Qk3:En Tryz.prog 9:=fun _ _=>by kernel_rfl
theorem Qda:Ku Tryz.prog 27:=fun _=>⟨by kernel_rfl,by kernel_rfl⟩
theorem Qwo:BS Tryz.prog 29 (fun i=>[(0,1),(1,1)][i]?) [.slice none 0 0,.int .u8 0]:=Dc Tryz.underlying29 Qix ⟨rfl,(Qda).siz,rfl,(Zb).siz,trivial⟩
theorem Ic:Ky Tryz.prog 29 2:=fun _=>⟨by kernel_rfl,by kernel_rfl⟩
theorem Qfi:FA Tryz.prog 29 0 0:=fun _ _ _=>by kernel_rfl
theorem Qwq:Du Tryz.prog 27 1 32 8 [.int .u8 0,.bool false,.int .i64 0,.int .i64 0,.int .i64 0,.int .i64 0,.int .i64 0,.slice none 0 0]:=Nf Tryz.underlying27 (Wc).siz Cz rfl rfl (by kernel_rfl)
theorem Qvx:Dt Tryz.prog 27 32 8 72:=Rs Tryz.underlying27 rfl (by kernel_rfl)
theorem Qfj:FA Tryz.prog 29 1 1:=fun _ _ _=>by kernel_rfl
theorem Xeb {p0 p1 bp1 r}(hm:Qhi p0 p1=some r){w:World}(hbp1:Bx w bp1 3 ([.int .i64 p1])):
 Calls Tryz.prog 89 [.int .i64 p0,.pointer (some ⟨bp1,0,none⟩)].toArray w fun e w'=>∃ v,e=.returned v∧(v=.bool r∧Gr w w'):=by
 have c:=hbp1.lt
 unfold Qhi at hm
 refine Xi 11 Tryz.func89 rfl rfl rfl<|qs 1 rfl<|qm rfl<|qd 8 rfl ?_
 refine qm rfl<|qv rfl (Jv (a:=p0) (b:=0) rfl rfl)<|Ji hm rfl (Qt rfl) (fun c1 hm=>?_) (fun c1 hm=>?_)
 · refine qn 5 rfl<|Qa<|Qq ?_
   cases hm
   exact⟨_,_,rfl,Qz rfl (Qn rfl),rfl,(Gr.refl w)⟩
 refine qm rfl<|qv rfl (Qi (v:=.int .i64 p1) Qm rfl hbp1 rfl)<|qv rfl (Wr (a:=p0) (b:=p1) rfl rfl)<|qn 2 rfl<|Qa<|Qq ?_
 cases hm
 exact⟨_,_,rfl,Qz rfl (Qn rfl),rfl,(Gr.refl w)⟩
theorem Xfr {p0 d vp0 zp0 gp0 op0 bp1_0 r}(hm:Qi9 p0 d=some r){w:World}(f:Rd w zp0 gp0 op0 1 vp0 (p0.map ic))(hbp1_0:Bx w bp1_0 3 ([.int .i64 d])):
 Calls Tryz.prog 143 [vp0,.func (.func 89) [].toArray [.pointer (some ⟨bp1_0,0,none⟩)].toArray].toArray w fun e w'=>∃ v,e=.returned v∧(v=.int .i64 r∧Gr w w'):=by
 have n:=f.lth
 have o:=hbp1_0.lt
 unfold Qi9 at hm
 refine Xi 19 Tryz.func143 rfl rfl rfl<|qs 1 rfl<|qm rfl<|Qa<|Qe<|Qe ?_
 refine qg 3 rfl<|qm rfl<|qv rfl (Kq (l:=p0) (c:=ic) Tryz.underlying30 rfl f)<|qm rfl<|Qa<|Xn<|Kf (α:=Nat × Int) ([4,5]++rg 8 11) (fun⟨n1,a2⟩=>[(4,.int .i64 0),(8,.int .i64 a2)]) (fun⟨n1,a2⟩ wr=>(Qv (Qbj p0 d) n1 a2=some r)∧Kz [] w wr) (fun⟨n1,a2⟩=>n1) ⟨Xb,0⟩ ?_ ?_ ?_
 · exact Ql
 · exact⟨hm,Kz.refl _ _⟩
 clear hm;rintro⟨n1,a2⟩ w1 ⟨hm,K1⟩
 have z3:=K1.size
 have hb:=Kl hm;clear hm;obtain⟨n1,rfl,hm⟩:=hb
 generalize g:Qv (Qbj p0 d) n1=m at hm
 unfold Qbj at hm
 try dsimp only at hm
 refine qs 1 rfl<|qv rfl (Jv (a:=a2) (b:=(p0.length:Int)) rfl rfl)<|Qa<|Qe<|Kx hm rfl (fun c1 hm=>?_) (fun c1 hm=>?_)
 · refine Jl<|Xu<|Xu<|Jk<|Xl<|qs 1 rfl ?_
   refine qm rfl<|Qa<|Qq ?_
   have X9:=((Gr.refl w).kz K1)
   cases hm
   exact⟨_,_,rfl,Qz rfl (Qn rfl),rfl,X9⟩
 refine qu<|Qe<|Xn<|qs 2 rfl<|qm rfl ?_
 refine qm rfl<|qd 6 rfl<|qn 3 rfl ?_
 obtain⟨y3,h,hm⟩:=Qd hm
 have B4:=(f.kz K1)
 refine qv rfl (Yq (i:=a2) Tryz.underlying30 (Qm).siz rfl B4 rfl h)<|qv rfl (Hl (q:=0) (u:=.int .i64 y3) Qm rfl B4 h (by first|rfl|omega) rfl) ?_
 have B5:=(hbp1_0.kz K1)
 obtain⟨x4,j,hm⟩:=Qd hm
 refine qe rfl (Yu Qzi rfl rfl (Xeb j B5)) ?_
 rintro _ w2 ⟨rfl,G2⟩
 have z6:=G2.size
 refine Qa<|Jo hm rfl (fun c2 hm=>?_) (fun c2 hm=>?_)
 · refine qs 2 rfl<|qn 2 rfl<|Qa<|Qq<|Jf ?_
   refine Xz<|Xz<|Jf<|Xz ?_
   have X7:=(((Gr.refl w).kz K1).trans G2)
   cases hm
   exact⟨_,_,rfl,Qz rfl (Qn rfl),rfl,X7⟩
 refine Jn<|Xh<|Xl<|qg 2 rfl<|qv rfl (Zd (k:=.i64) (a:=a2) (b:=1) rfl rfl)<|qm rfl<|Qk ?_
 have K_8:Kz [] w w2:=(K1.gr G2)
 subst g
 exact⟨rfl,⟨n1,Qc (a2+1)⟩,Ql,⟨hm,K_8⟩,Nat.lt_succ_self _⟩
theorem Xfp {p0 c vp0 zp0 gp0 op0 bp1_0 r}(hm:Qi8 p0 c=some r){w:World}(d:Rd w zp0 gp0 op0 1 vp0 (p0.map ic))(hbp1_0:Bx w bp1_0 3 ([.int .i64 c])):
 Calls Tryz.prog 88 [vp0,.func (.func 89) [].toArray [.pointer (some ⟨bp1_0,0,none⟩)].toArray].toArray w fun e w'=>∃ v,e=.returned v∧(v=.bool r∧Gr w w'):=by
 have g:=d.lth
 have h:=hbp1_0.lt
 unfold Qi8 at hm
 refine Xi 9 Tryz.func88 rfl rfl rfl<|qs 1 rfl<|qm rfl<|qd 5 rfl ?_
 refine qn 2 rfl ?_
 obtain⟨x1,f,hm⟩:=Qd hm
 refine qe rfl (eC Qyk rfl (Xfr f d hbp1_0)) ?_
 rintro _ w1 ⟨rfl,G1⟩
 have z3:=G1.size
 refine qv rfl (Wk (a:=x1) (b:=0) rfl rfl)<|qm rfl<|Qa<|Qq ?_
 have X4:=((Gr.refl w).trans G1)
 cases hm
 exact⟨_,_,rfl,Qz rfl (Qn rfl),rfl,X4⟩
theorem Qhj {p0 p1 vp1 zp1 gp1 op1 r}(hm:Ce p0 p1=some r){w:World}(a:Rd w zp1 gp1 op1 1 vp1 (p1.map ic)):
 Calls Tryz.prog 47 [.int .i64 p0,vp1].toArray w fun e w'=>∃ v,e=.returned v∧(v=.bool r∧Gr w w'):=by
 have f:=a.lth
 unfold Ce at hm
 refine Xi 9 Tryz.func47 rfl rfl rfl<|qs 2 rfl<|qe rfl (Xo (cs:=[.int .i64 p0]) rfl rfl) ?_
 rintro _ w1 ⟨b1,rfl,d,b,G1⟩
 have z2:=G1.size
 have g:=b.lt
 refine qm rfl<|qd 5 rfl<|qm rfl<|qv rfl (Tu rfl rfl) ?_
 have B4:=(a.gr G1)
 obtain⟨x1,c,hm⟩:=Qd hm
 refine qe rfl (eC Qzh rfl (Xfp c B4 b)) ?_
 rintro _ w2 ⟨rfl,G2⟩
 have z5:=G2.size
 refine qv rfl (Kd rfl)<|qm rfl<|Qa<|Qq ?_
 have X6:=(((Gr.refl w).trans G1).trans G2)
 cases hm
 exact⟨_,_,rfl,Qz rfl (Qn rfl),rfl,X6⟩
theorem Xdx {p0 r}(hm:Qdb p0=some r){w:World}:
 Calls Tryz.prog 29 [.agg (Zs.cs p0).toArray].toArray w fun e w'=>∃ v,e=.returned v∧(v=.int .i64 r∧Gr w w'):=by
 unfold Qdb at hm
 refine Xi 36 Tryz.func29 rfl rfl rfl<|qs 2 rfl<|qe rfl (Xo (cs:=Zs.cs p0) rfl rfl) ?_
 rintro _ w1 ⟨b1,rfl,u,j,G1⟩
 have z1:=G1.size
 have F:=j.lt
 refine qm rfl<|Qa<|Qe ?_
 have X3:=((Gr.refl w).trans G1)
 refine qj (β:=Bool) (rg 3 33) (fun a1=>[(35,.bool a1)]) (fun a1 wr=>(Eo a1=some r)∧Kz [] w1 wr) ?_ ?_
 · refine dw [([])] [] (.leaf [(0,10),(1,10),(2,0),(3,0),(4,10),(5,10),(6,10),(7,10),(8,10),(9,10),(10,10),(11,0),(12,0),(13,10),(14,10),(15,10),(16,10),(17,10),(18,0),(19,0),(20,10),(21,10),(22,10),(23,10),(24,10),(25,10),(26,10),(27,10),(28,10),(29,0),(30,0),(31,10),(32,10)]) ?_
   intro w3 G3 G
   refine Zz<|dh 0 rfl rfl (fun w hS=>Qh Qai rfl) ?_
   have B7:=(j.gr G3)
   refine dh 0 rfl rfl (fun w hS=>Qi (v:=.int .i64 p0.Depth) Qm rfl (Bx.kp B7 hS) rfl)<|qz [] rfl (Ha [p0.Depth] ic Il rfl rfl (Pc rfl) rfl rfl rfl) ⟨fun _=>Qf,trivial⟩ ?_
   rintro H w4 ⟨I,x,k,G4⟩
   have z8:=G4.size
   have J:=k.lth
   refine kG G4 ?_
   obtain⟨x2,o,hm⟩:=Qd hm
   refine qz [] rfl (eC Qf7 rfl (Qhj o (Qg.rd k))) ⟨fun _=>Qf,trivial⟩ ?_
   rintro _ w5 ⟨rfl,G5⟩
   have K:=G5.size
   refine kG G5 ?_
   have Y1:=Gr.trans G4 G5
   have c:=((Kp.refl ([]) w3).gr Y1)
   refine qh 0 rfl rfl c (fun w hS=>Kd rfl)<|qqC hm 0 rfl rfl c (fun w hS=>Qt rfl) (fun c2 hm=>?_) (fun c2 hm=>?_)
   · refine qx 0 rfl rfl c<|qx 0 rfl rfl c<|qx 0 rfl rfl c<|qx 0 rfl rfl c<|qx 0 rfl rfl c<|qy rfl<|qy rfl ?_
     refine qx 0 rfl rfl c<|dn 0 rfl rfl c<|dn 0 rfl rfl c<|qx 0 rfl rfl c<|qx 0 rfl rfl c<|qy rfl<|qy rfl ?_
     refine qx 0 rfl rfl c<|dn 0 rfl rfl c<|dn 0 rfl rfl c<|qx 0 rfl rfl c<|qx 0 rfl rfl c<|qx 0 rfl rfl c<|qx 0 rfl rfl c ?_
     refine qx 0 rfl rfl c<|qx 0 rfl rfl c<|qy rfl<|qy rfl<|qx 0 rfl rfl c<|dn 0 rfl rfl c<|Qk ?_
     have Y2:=Gr.trans G3 Y1
     exact⟨rfl,true,Ql,hm,(Xe.gr Y2)⟩
   refine qh 0 rfl rfl c (fun w hS=>Qh Qai rfl)<|qh 0 rfl rfl c (fun w hS=>Qi (v:=.int .i64 p0.Depth) Qm rfl (Bx.kp B7 hS) rfl) ?_
   obtain⟨nn3,hnn3,hm⟩:=Qd hm
   refine qh 0 rfl rfl c (fun w hS=>Tf (a:=1) (b:=p0.Depth) rfl rfl hnn3)<|qh 0 rfl rfl c (fun w hS=>Qh Qcw rfl)<|qh 0 rfl rfl c (fun w hS=>Qi (v:=.int .i64 p0.Revoked) Qm rfl (Bx.kp B7 hS) rfl)<|qz [] rfl (Ha [p0.Revoked] ic Il rfl rfl (Pc rfl) rfl rfl rfl) ⟨fun _=>Qf,trivial⟩ ?_
   rintro L w6 ⟨M,y,l,G6⟩
   have N:=G6.size
   have z:=l.lth
   refine kG G6 ?_
   obtain⟨x4,p,hm⟩:=Qd hm
   refine qz [] rfl (eC Qf7 rfl (Qhj p (Qg.rd l))) ⟨fun _=>Qf,trivial⟩ ?_
   rintro _ w7 ⟨rfl,G7⟩
   have O:=G7.size
   refine kG G7 ?_
   have Y3:=Gr.trans G6 G7
   have d:=(c.gr Y3)
   refine qh 0 rfl rfl d (fun w hS=>Kd rfl)<|dn 0 rfl rfl d<|qqC hm 0 rfl rfl d (fun w hS=>Qt rfl) (fun c3 hm=>?_) (fun c3 hm=>?_)
   · refine qx 0 rfl rfl d<|qx 0 rfl rfl d<|qy rfl<|qy rfl<|qx 0 rfl rfl d<|dn 0 rfl rfl d<|dn 0 rfl rfl d ?_
     refine qx 0 rfl rfl d<|qx 0 rfl rfl d<|qx 0 rfl rfl d<|qx 0 rfl rfl d<|qx 0 rfl rfl d<|qx 0 rfl rfl d<|qy rfl ?_
     refine qy rfl<|qx 0 rfl rfl d<|dn 0 rfl rfl d<|Qk ?_
     have Y4:=Gr.trans (Gr.trans G3 Y1) Y3
     exact⟨rfl,true,Ql,hm,(Xe.gr Y4)⟩
   refine qh 0 rfl rfl d (fun w hS=>Qh Qqp rfl)<|qh 0 rfl rfl d (fun w hS=>Qi (v:=.int .i64 p0.Storage) Qm rfl (Bx.kp B7 hS) rfl)<|qz [] rfl (Ha [p0.Storage] ic Il rfl rfl (Pc rfl) rfl rfl rfl) ⟨fun _=>Qf,trivial⟩ ?_
   rintro P w8 ⟨Q,A,m,G8⟩
   have R:=G8.size
   have B:=m.lth
   refine kG G8 ?_
   obtain⟨x5,q,hm⟩:=Qd hm
   refine qz [] rfl (eC Qf7 rfl (Qhj q (Qg.rd m))) ⟨fun _=>Qf,trivial⟩ ?_
   rintro _ w9 ⟨rfl,G9⟩
   have S:=G9.size
   refine kG G9 ?_
   have f:=((d.gr G8).gr G9)
   refine qh 0 rfl rfl f (fun w hS=>Kd rfl)<|dn 0 rfl rfl f<|qqC hm 0 rfl rfl f (fun w hS=>Qt rfl) (fun c4 hm=>?_) (fun c4 hm=>?_)
   · refine qx 0 rfl rfl f<|qx 0 rfl rfl f<|qx 0 rfl rfl f<|qx 0 rfl rfl f<|qx 0 rfl rfl f<|qx 0 rfl rfl f<|qy rfl ?_
     refine qy rfl<|qx 0 rfl rfl f<|dn 0 rfl rfl f<|Qk ?_
     have Y5:=Gr.trans (Gr.trans (Gr.trans (Gr.trans G3 Y1) Y3) G8) G9
     exact⟨rfl,true,Ql,hm,(Xe.gr Y5)⟩
   refine qh 0 rfl rfl f (fun w hS=>Qh Qqq rfl)<|qh 0 rfl rfl f (fun w hS=>Qi (v:=.int .i64 p0.Headers) Qm rfl (Bx.kp B7 hS) rfl)<|qh 0 rfl rfl f (fun w hS=>Qh Qqr rfl)<|qh 0 rfl rfl f (fun w hS=>Qi (v:=.int .i64 p0.HeaderPrice) Qm rfl (Bx.kp B7 hS) rfl)<|qh 0 rfl rfl f (fun w hS=>Qh Qqs rfl)<|qh 0 rfl rfl f (fun w hS=>Qi (v:=.int .i64 p0.StoragePrice) Qm rfl (Bx.kp B7 hS) rfl)<|qz [] rfl (Ha [p0.Headers,p0.HeaderPrice,p0.StoragePrice] ic Qws rfl rfl (Pc rfl) rfl rfl rfl) ⟨fun _=>Qf,trivial⟩ ?_
   rintro C T ⟨D,s,i,g⟩
   have U:=g.size
   have E:=i.lth
   refine kG g ?_
   obtain⟨x6,t,hm⟩:=Qd hm
   refine qz [] rfl (eC Qf7 rfl (Qhj t (Qg.rd i))) ⟨fun _=>Qf,trivial⟩ ?_
   rintro _ V ⟨rfl,h⟩
   have W:=h.size
   refine kG h ?_
   have n:=((f.gr g).gr h)
   refine qh 0 rfl rfl n (fun w hS=>Kd rfl)<|dn 0 rfl rfl n<|Qk ?_
   exact⟨rfl,(!x6),Ql,hm,(((((((Xe.gr G3).gr Y1).gr Y3).gr G8).gr G9).gr g).gr h)⟩
 clear hm;rintro a1 w2 ⟨hm,K2⟩
 have z4:=K2.size
 unfold Eo at hm
 refine Jo hm rfl (fun c1 hm=>?_) (fun c1 hm=>?_)
 · refine qs 1 rfl<|qm rfl<|qb ?_
   have X5:=(X3.kz K2)
   cases hm
   exact⟨_,_,rfl,Qz rfl (Qn rfl),rfl,X5⟩
 refine qu<|qs 1 rfl<|qm rfl<|Qa<|Qq ?_
 have X6:=(X3.kz K2)
 cases hm
 exact⟨_,_,rfl,Qz rfl (Qn rfl),rfl,X6⟩
theorem Qsg {p0 r}(hm:Qaz p0=some r){w:World}:
 Calls Tryz.prog 144 [wv p0].toArray w fun e w'=>∃ v,e=.returned v∧(v=.bool r∧Gr w w'):=by
 unfold Qaz at hm
 refine Xi 21 Tryz.func144 rfl rfl rfl<|qs 1 rfl<|qm rfl<|Qa<|Qe<|qj (β:=Bool) (rg 4 6) (fun a1=>[(9,.bool a1)]) (fun a1 wr=>(Qd7 p0 a1=some r)∧Kz [] w wr) ?_ ?_
 · refine qg 6 rfl<|qm rfl<|qv rfl (Qnh (c:=p0) (d:=2#64) rfl rfl)<|Ji hm rfl (Qt rfl) (fun c4 hm=>?_) (fun c4 hm=>?_)
   · refine qn 3 rfl<|Qk ?_
     exact⟨rfl,true,Ql,hm,Xe⟩
   refine qm rfl<|qv rfl (Qng (c:=p0) (d:=1048575#64) rfl rfl)<|qm rfl<|Qk ?_
   exact⟨rfl,(decide (1048575#64<p0)),Ql,hm,Xe⟩
 clear hm;rintro a1 w1 ⟨hm,K1⟩
 have z1:=K1.size
 unfold Qd7 at hm
 refine Jo hm rfl (fun c1 hm=>?_) (fun c1 hm=>?_)
 · refine qs 1 rfl<|qm rfl<|qb ?_
   have X2:=((Gr.refl w).kz K1)
   cases hm
   exact⟨_,_,rfl,Qz rfl (Qn rfl),rfl,X2⟩
 refine qu<|Qe<|qs 1 rfl<|qm rfl<|Qa ?_
 refine Xn ?_
 have X3:=((Gr.refl w).kz K1)
 refine Kf (α:=Nat × BitVec 64) ([2,3]++rg 10 11) (fun⟨n2,a3⟩=>[(2,.bool false),(3,wv a3)]) (fun⟨n2,a3⟩ wr=>(Qv (Qd8 p0) n2 a3=some r)∧Kz [] w1 wr) (fun⟨n2,a3⟩=>n2) ⟨Xb,2#64⟩ ?_ ?_ ?_
 · exact Ql
 · exact⟨hm,Kz.refl _ _⟩
 clear hm;rintro⟨n2,a3⟩ w2 ⟨hm,K2⟩
 have z4:=K2.size
 have hb:=Kl hm;clear hm;obtain⟨n2,rfl,hm⟩:=hb
 generalize f:Qv (Qd8 p0) n2=h at hm
 unfold Qd8 at hm
 try dsimp only at hm
 refine Qe<|qs 5 rfl<|qn 2 rfl<|qv rfl (Qe7 (a:=a3) (b:=a3) rfl rfl)<|qm rfl ?_
 refine qv rfl (Xhl (c:=a3*a3) (d:=p0) rfl rfl)<|Qa<|Kx hm rfl (fun c2 hm=>?_) (fun c2 hm=>?_)
 · refine Jl<|Xu<|Xu<|Jk<|Xl<|qs 1 rfl ?_
   refine qm rfl<|Qa<|Qq ?_
   have X7:=(X3.kz K2)
   cases hm
   exact⟨_,_,rfl,Qz rfl (Qn rfl),rfl,X7⟩
 refine qu<|Qe<|Xn<|qs 4 rfl<|qm rfl ?_
 refine qm rfl ?_
 obtain⟨x4,g,hm⟩:=Qd hm
 refine qv rfl (Sb (c:=p0) (d:=a3) rfl rfl g)<|qv rfl (Qe3 (c:=x4) (d:=0#64) rfl rfl)<|Qa<|Zv hm rfl (fun c3 hm=>?_) (fun c3 hm=>?_)
 · refine qs 1 rfl<|qm rfl<|Qa<|Qq<|Jf<|Xz ?_
   refine Xz<|Jf<|Xz ?_
   have X5:=(X3.kz K2)
   cases hm
   exact⟨_,_,rfl,Qz rfl (Qn rfl),rfl,X5⟩
 refine Jn<|Xh<|Xl<|qg 3 rfl<|qm rfl<|qv rfl (Qe6 (a:=a3) (b:=1#64) rfl rfl)<|qm rfl ?_
 refine Qk ?_
 have K_6:Kz [] w1 w2:=K2
 subst f
 exact⟨rfl,⟨n2,a3+1#64⟩,Ql,⟨hm,K_6⟩,Nat.lt_succ_self _⟩
theorem Qsf {p0 p1 p2 r}(hm:Qay p0 p1 p2=some r){w:World}:
 Calls Tryz.prog 145 [wv p0,wv p1,wv p2].toArray w fun e w'=>∃ v,e=.returned v∧(v=wv r∧Gr w w'):=by
 unfold Qay at hm
 refine Xi 31 Tryz.func145 rfl rfl rfl<|qs 1 rfl<|qm rfl<|qd 3 rfl ?_
 refine qm rfl ?_
 obtain⟨x1,i,hm⟩:=Qd hm
 refine qv rfl (Sb (c:=1#64) (d:=p2) rfl rfl i)<|qm rfl<|Qa<|Qe<|qs 4 rfl<|qm rfl ?_
 refine qm rfl ?_
 obtain⟨x2,j,hm⟩:=Qd hm
 refine qv rfl (Sb (c:=p0) (d:=p2) rfl rfl j)<|qm rfl<|Qa<|Xn<|Kf (α:=Nat × BitVec 64 × BitVec 64 × BitVec 64) ([0,1,7]++rg 13 17) (fun⟨n1,a6,a7,a8⟩=>[(0,wv a6),(1,wv a7),(7,wv a8)]) (fun⟨n1,a6,a7,a8⟩ wr=>(Qv (Ei p2) n1 (a6,a7,a8)=some r)∧Kz [] w wr) (fun⟨n1,a6,a7,a8⟩=>n1) ⟨Xb,x2,p1,x1⟩ ?_ ?_ ?_
 · exact Ql
 · exact⟨hm,Kz.refl _ _⟩
 clear hm;rintro⟨n1,a6,a7,a8⟩ w1 ⟨hm,K1⟩
 have z1:=K1.size
 have hb:=Kl hm;clear hm;obtain⟨n1,rfl,hm⟩:=hb
 generalize f:Qv (Ei p2) n1=n at hm
 unfold Ei at hm
 try dsimp only at hm
 refine Qe<|qs 2 rfl<|qm rfl<|qv rfl (Qng (c:=a7) (d:=0#64) rfl rfl)<|Qa<|Kx hm rfl (fun c1 hm=>?_) (fun c1 hm=>?_)
 · refine Jl<|Xu<|Xu<|Jk<|Xl<|qs 2 rfl ?_
   refine qn 2 rfl<|Qa<|Qq ?_
   have X4:=((Gr.refl w).kz K1)
   cases hm
   exact⟨_,_,rfl,Qz rfl (Qn rfl),rfl,X4⟩
 refine qu<|Qe<|Xn<|Qe<|qs 3 rfl ?_
 refine qm rfl<|qv rfl (Xhv (a:=a7) (b:=1#64) rfl rfl)<|qv rfl (Qe3 (c:=a7 &&& 1#64) (d:=1#64) rfl rfl)<|Qa<|Kx hm rfl (fun c2 hm=>?_) (fun c2 hm=>?_)
 · refine qu<|qg 6 rfl<|qn 2 rfl<|qv rfl (Qe7 (a:=a6) (b:=a6) rfl rfl)<|qm rfl ?_
   obtain⟨k,g,hm⟩:=Qd hm
   refine qv rfl (Sb (c:=a6*a6) (d:=p2) rfl rfl g)<|qm rfl<|Qk<|Xh<|Xl<|qg 3 rfl<|qm rfl ?_
   obtain⟨nn13,hnn13,hm⟩:=Qd hm
   refine qv rfl (Qnl (c:=a7) (b:=(un 1#64)) rfl rfl hnn13)<|qm rfl<|Qk ?_
   have K_3:Kz [] w w1:=K1
   subst f
   exact⟨rfl,⟨n1,k,a7 >>> nn13,a8⟩,Ql,⟨hm,K_3⟩,Nat.lt_succ_self _⟩
 refine qg 6 rfl<|qn 2 rfl<|qv rfl (Qe7 (a:=a8) (b:=a6) rfl rfl)<|qm rfl ?_
 obtain⟨x9,l,hm⟩:=Qd hm
 refine qv rfl (Sb (c:=a8*a6) (d:=p2) rfl rfl l)<|qm rfl<|Qa<|qg 6 rfl<|qn 2 rfl<|qv rfl (Qe7 (a:=a6) (b:=a6) rfl rfl) ?_
 refine qm rfl ?_
 obtain⟨m,h,hm⟩:=Qd hm
 refine qv rfl (Sb (c:=a6*a6) (d:=p2) rfl rfl h)<|qm rfl<|Qk<|Xh<|Xl<|qg 3 rfl<|qm rfl ?_
 obtain⟨nn11,hnn11,hm⟩:=Qd hm
 refine qv rfl (Qnl (c:=a7) (b:=(un 1#64)) rfl rfl hnn11)<|qm rfl<|Qk ?_
 have K_2:Kz [] w w1:=K1
 subst f
 exact⟨rfl,⟨n1,m,a7 >>> nn11,x9⟩,Ql,⟨hm,K_2⟩,Nat.lt_succ_self _⟩
theorem Xda {p0 r}(hm:Eh p0=some r){w:World}:
 Calls Tryz.prog 90 [.agg (Jb.cs p0).toArray].toArray w fun e w'=>∃ v,e=.returned v∧(v=.int .i64 r∧Gr w w'):=by
 unfold Eh at hm
 refine Xi 44 Tryz.func90 rfl rfl rfl<|qs 2 rfl<|qe rfl (Xo (cs:=Jb.cs p0) rfl rfl) ?_
 rintro _ w1 ⟨b1,rfl,l,g,G1⟩
 have z1:=G1.size
 have m:=g.lt
 refine qm rfl<|Qa<|Qe ?_
 have X3:=((Gr.refl w).trans G1)
 refine qj (β:=Bool) (rg 3 41) (fun a1=>[(43,.bool a1)]) (fun a1 wr=>(Lr a1=some r)∧Kz [] w1 wr) ?_ ?_
 · refine qg 41 rfl<|qv rfl (Qh Qcv rfl)<|qv rfl (Qi (v:=wv p0.P) Zw rfl g rfl) ?_
   obtain⟨x2,h,hm⟩:=Qd hm
   refine qe rfl (eC Qpr rfl (Qsg h)) ?_
   rintro _ w3 ⟨rfl,G3⟩
   have z7:=G3.size
   refine qv rfl (Kd rfl)<|Ch hm rfl (Qt rfl) (fun c2 hm=>?_) (fun c2 hm=>?_)
   · refine qn 7 rfl ?_
     refine qn 7 rfl ?_
     refine qn 7 rfl ?_
     refine qn 7 rfl ?_
     refine qn 7 rfl ?_
     refine qm rfl<|Qk ?_
     exact⟨rfl,true,Ql,hm,(Xe.gr G3)⟩
   refine qv rfl (Qh Bn rfl) ?_
   have B9:=(g.gr G3)
   refine qv rfl (Qi (v:=wv p0.Q) Zw rfl B9 rfl) ?_
   obtain⟨x3,i,hm⟩:=Qd hm
   refine qe rfl (eC Qpr rfl (Qsg i)) ?_
   rintro _ w4 ⟨rfl,G4⟩
   have n:=G4.size
   refine qv rfl (Kd rfl)<|qm rfl<|Ch hm rfl (Qt rfl) (fun c3 hm=>?_) (fun c3 hm=>?_)
   · refine qn 7 rfl ?_
     refine qn 7 rfl ?_
     refine qn 7 rfl ?_
     refine qn 7 rfl ?_
     refine qn 2 rfl<|Qk ?_
     have Y1:=Gr.trans G3 G4
     exact⟨rfl,true,Ql,hm,(Xe.gr Y1)⟩
   refine qv rfl (Qh Qcv rfl) ?_
   have f:=(B9.gr G4)
   refine qv rfl (Qi (v:=wv p0.P) Zw rfl f rfl)<|qv rfl (Qvj (a:=p0.P) (b:=1#64) rfl rfl)<|qv rfl (Qh Bn rfl)<|qv rfl (Qi (v:=wv p0.Q) Zw rfl f rfl) ?_
   obtain⟨x4,j,hm⟩:=Qd hm
   refine qv rfl (Sb (c:=p0.P-1#64) (d:=p0.Q) rfl rfl j)<|qv rfl (Qvf (c:=x4) (d:=0#64) rfl rfl)<|qm rfl<|Ji hm rfl (Qt rfl) (fun c4 hm=>?_) (fun c4 hm=>?_)
   · refine qn 7 rfl ?_
     refine qn 7 rfl ?_
     refine qn 7 rfl ?_
     refine Qk ?_
     have Y2:=Gr.trans G3 G4
     exact⟨rfl,true,Ql,hm,(Xe.gr Y2)⟩
   refine qv rfl (Qh Qfh rfl)<|qv rfl (Qi (v:=wv p0.G) Zw rfl f rfl)<|qv rfl (Qnh (c:=p0.G) (d:=2#64) rfl rfl)<|qm rfl<|Ji hm rfl (Qt rfl) (fun c5 hm=>?_) (fun c5 hm=>?_)
   · refine qn 7 rfl ?_
     refine qn 7 rfl ?_
     refine qn 2 rfl<|Qk ?_
     have Y3:=Gr.trans G3 G4
     exact⟨rfl,true,Ql,hm,(Xe.gr Y3)⟩
   refine qv rfl (Qh Qfh rfl)<|qv rfl (Qi (v:=wv p0.G) Zw rfl f rfl)<|qv rfl (Qh Qcv rfl)<|qv rfl (Qi (v:=wv p0.P) Zw rfl f rfl)<|qv rfl (Qv8 (c:=p0.G) (d:=p0.P) rfl rfl)<|qm rfl<|Ji hm rfl (Qt rfl) (fun c6 hm=>?_) (fun c6 hm=>?_)
   · refine qn 7 rfl ?_
     refine qn 2 rfl<|Qk ?_
     have Y4:=Gr.trans G3 G4
     exact⟨rfl,true,Ql,hm,(Xe.gr Y4)⟩
   refine qv rfl (Qh Qfh rfl)<|qv rfl (Qi (v:=wv p0.G) Zw rfl f rfl)<|qv rfl (Qh Bn rfl)<|qv rfl (Qi (v:=wv p0.Q) Zw rfl f rfl)<|qv rfl (Qh Qcv rfl)<|qv rfl (Qi (v:=wv p0.P) Zw rfl f rfl) ?_
   obtain⟨x5,k,hm⟩:=Qd hm
   refine qe rfl (eC Qps rfl (Qsf k)) ?_
   rintro _ w5 ⟨rfl,G5⟩
   have o:=G5.size
   refine qv rfl (Qvf (c:=x5) (d:=1#64) rfl rfl)<|qm rfl<|Qk ?_
   exact⟨rfl,(decide (x5≠1#64)),Ql,hm,(((Xe.gr G3).gr G4).gr G5)⟩
 clear hm;rintro a1 w2 ⟨hm,K2⟩
 have z4:=K2.size
 unfold Lr at hm
 refine Jo hm rfl (fun c1 hm=>?_) (fun c1 hm=>?_)
 · refine qs 1 rfl<|qm rfl<|qb ?_
   have X5:=(X3.kz K2)
   cases hm
   exact⟨_,_,rfl,Qz rfl (Qn rfl),rfl,X5⟩
 refine qu<|qs 1 rfl<|qm rfl<|Qa<|Qq ?_
 have X6:=(X3.kz K2)
 cases hm
 exact⟨_,_,rfl,Qz rfl (Qn rfl),rfl,X6⟩
theorem Qm0 {p0 r}(hm:Hi p0=some r){w:World}:
 Calls Tryz.prog 48 [.agg (Qj.cs p0).toArray].toArray w fun e w'=>∃ v,e=.returned v∧(v=.bool r∧Gr w w'):=by
 unfold Hi at hm
 refine Xi 45 Tryz.func48 rfl rfl rfl<|qs 2 rfl<|qe rfl (Xo (cs:=Qj.cs p0) rfl rfl) ?_
 rintro _ w1 ⟨b1,rfl,l,f,G1⟩
 have z1:=G1.size
 have m:=f.lt
 refine qm rfl<|Qa<|Qe<|dw [([])] [] (.leaf [(0,10),(1,10),(2,10),(3,10),(4,10),(5,10),(6,10),(7,10),(8,10),(9,10),(10,10),(11,10),(12,10),(13,10),(14,10),(15,10),(16,10),(17,10),(18,10),(19,10),(20,10),(21,10),(22,10),(23,10),(24,10),(25,10),(26,0),(27,10),(28,10),(29,10),(30,10),(31,10),(32,10),(33,10),(34,10),(35,10),(36,10),(37,10),(38,10),(39,10),(40,10),(41,10),(42,10)]) ?_
 intro w2 G2 n
 refine Zz<|dh 0 rfl rfl (fun w hS=>Qh Ye rfl) ?_
 have B3:=(f.gr G2)
 refine dh 0 rfl rfl (fun w hS=>Qi (v:=bv p0.Kind) Zb rfl (Bx.kp B3 hS) rfl)<|dh 0 rfl rfl (fun w hS=>Vt (p:=p0.Kind) (q:=4#8) rfl rfl)<|Qb9 hm 0 rfl rfl (Kp.refl ([]) w2) (fun w hS=>Qt rfl) (fun c1 hm=>?_) (fun c1 hm=>?_)
 · refine dx 0 rfl rfl<|dx 0 rfl rfl<|dx 0 rfl rfl<|dm 0 rfl rfl<|dm 0 rfl rfl<|dx 0 rfl rfl<|dx 0 rfl rfl ?_
   refine dx 0 rfl rfl<|dm 0 rfl rfl<|dm 0 rfl rfl<|dx 0 rfl rfl<|dx 0 rfl rfl<|dx 0 rfl rfl<|dm 0 rfl rfl ?_
   refine dm 0 rfl rfl<|dx 0 rfl rfl<|dx 0 rfl rfl<|dx 0 rfl rfl<|dm 0 rfl rfl<|dm 0 rfl rfl<|dx 0 rfl rfl ?_
   refine dx 0 rfl rfl<|qy rfl<|dx 0 rfl rfl<|dm 0 rfl rfl<|dm 0 rfl rfl<|dx 0 rfl rfl<|dx 0 rfl rfl ?_
   refine dx 0 rfl rfl<|dx 0 rfl rfl<|dx 0 rfl rfl<|dx 0 rfl rfl<|dx 0 rfl rfl<|dx 0 rfl rfl<|dx 0 rfl rfl ?_
   refine dx 0 rfl rfl<|dx 0 rfl rfl<|dm 0 rfl rfl<|dm 0 rfl rfl<|Qa<|Qq ?_
   have Y1:=Gr.trans G1 G2
   have g:=((Gr.refl w).trans Y1)
   cases hm
   exact⟨_,_,rfl,Qz rfl (Qn rfl),rfl,g⟩
 refine dh 0 rfl rfl (fun w hS=>Qh Wo rfl)<|dh 0 rfl rfl (fun w hS=>Qi (v:=.int .i64 p0.Depth) Qm rfl (Bx.kp B3 hS) rfl)<|dh 0 rfl rfl (fun w hS=>Wk (a:=p0.Depth) (b:=0) rfl rfl)<|dm 0 rfl rfl<|Qb9 hm 0 rfl rfl (Kp.refl ([]) w2) (fun w hS=>Qt rfl) (fun c2 hm=>?_) (fun c2 hm=>?_)
 · refine dx 0 rfl rfl<|dx 0 rfl rfl<|dx 0 rfl rfl<|dm 0 rfl rfl<|dm 0 rfl rfl<|dx 0 rfl rfl<|dx 0 rfl rfl ?_
   refine dx 0 rfl rfl<|dm 0 rfl rfl<|dm 0 rfl rfl<|dx 0 rfl rfl<|dx 0 rfl rfl<|dx 0 rfl rfl<|dm 0 rfl rfl ?_
   refine dm 0 rfl rfl<|dx 0 rfl rfl<|dx 0 rfl rfl<|qy rfl<|dx 0 rfl rfl<|dm 0 rfl rfl<|dm 0 rfl rfl ?_
   refine dx 0 rfl rfl<|dx 0 rfl rfl<|dx 0 rfl rfl<|dx 0 rfl rfl<|dx 0 rfl rfl<|dx 0 rfl rfl<|dx 0 rfl rfl ?_
   refine dx 0 rfl rfl<|dx 0 rfl rfl<|dx 0 rfl rfl<|dx 0 rfl rfl<|dm 0 rfl rfl<|dm 0 rfl rfl<|Qa ?_
   refine Qq ?_
   have Y2:=Gr.trans G1 G2
   have h:=((Gr.refl w).trans Y2)
   cases hm
   exact⟨_,_,rfl,Qz rfl (Qn rfl),rfl,h⟩
 refine dh 0 rfl rfl (fun w hS=>Qh Wo rfl)<|dh 0 rfl rfl (fun w hS=>Qi (v:=.int .i64 p0.Depth) Qm rfl (Bx.kp B3 hS) rfl)<|dh 0 rfl rfl (fun w hS=>Tt (a:=p0.Depth) (b:=6) rfl rfl)<|dm 0 rfl rfl<|Qb9 hm 0 rfl rfl (Kp.refl ([]) w2) (fun w hS=>Qt rfl) (fun c3 hm=>?_) (fun c3 hm=>?_)
 · refine dx 0 rfl rfl<|dx 0 rfl rfl<|dx 0 rfl rfl<|dm 0 rfl rfl<|dm 0 rfl rfl<|dx 0 rfl rfl<|dx 0 rfl rfl ?_
   refine dx 0 rfl rfl<|dm 0 rfl rfl<|dm 0 rfl rfl<|dx 0 rfl rfl<|dx 0 rfl rfl<|qy rfl<|dx 0 rfl rfl ?_
   refine dm 0 rfl rfl<|dm 0 rfl rfl<|dx 0 rfl rfl<|dx 0 rfl rfl<|dx 0 rfl rfl<|dx 0 rfl rfl<|dx 0 rfl rfl ?_
   refine dx 0 rfl rfl<|dx 0 rfl rfl<|dx 0 rfl rfl<|dx 0 rfl rfl<|dx 0 rfl rfl<|dx 0 rfl rfl<|dm 0 rfl rfl ?_
   refine dm 0 rfl rfl<|Qa<|Qq ?_
   have Y3:=Gr.trans G1 G2
   have i:=((Gr.refl w).trans Y3)
   cases hm
   exact⟨_,_,rfl,Qz rfl (Qn rfl),rfl,i⟩
 refine dh 0 rfl rfl (fun w hS=>Qh Bo rfl)<|dh 0 rfl rfl (fun w hS=>Qi (v:=.int .i64 p0.Degree) Qm rfl (Bx.kp B3 hS) rfl)<|dh 0 rfl rfl (fun w hS=>Wk (a:=p0.Degree) (b:=1) rfl rfl)<|dm 0 rfl rfl<|Qb9 hm 0 rfl rfl (Kp.refl ([]) w2) (fun w hS=>Qt rfl) (fun c4 hm=>?_) (fun c4 hm=>?_)
 · refine dx 0 rfl rfl<|dx 0 rfl rfl<|dx 0 rfl rfl<|dm 0 rfl rfl<|dm 0 rfl rfl<|dx 0 rfl rfl<|dx 0 rfl rfl ?_
   refine qy rfl<|dx 0 rfl rfl<|dm 0 rfl rfl<|dm 0 rfl rfl<|dx 0 rfl rfl<|dx 0 rfl rfl<|dx 0 rfl rfl ?_
   refine dx 0 rfl rfl<|dx 0 rfl rfl<|dx 0 rfl rfl<|dx 0 rfl rfl<|dx 0 rfl rfl<|dx 0 rfl rfl<|dx 0 rfl rfl ?_
   refine dx 0 rfl rfl<|dm 0 rfl rfl<|dm 0 rfl rfl<|Qa<|Qq ?_
   have Y4:=Gr.trans G1 G2
   have X9:=((Gr.refl w).trans Y4)
   cases hm
   exact⟨_,_,rfl,Qz rfl (Qn rfl),rfl,X9⟩
 refine dh 0 rfl rfl (fun w hS=>Qh Bo rfl)<|dh 0 rfl rfl (fun w hS=>Qi (v:=.int .i64 p0.Degree) Qm rfl (Bx.kp B3 hS) rfl)<|dh 0 rfl rfl (fun w hS=>Tt (a:=p0.Degree) (b:=8) rfl rfl)<|dm 0 rfl rfl<|Qb9 hm 0 rfl rfl (Kp.refl ([]) w2) (fun w hS=>Qt rfl) (fun c5 hm=>?_) (fun c5 hm=>?_)
 · refine dx 0 rfl rfl<|dx 0 rfl rfl<|qy rfl<|dx 0 rfl rfl<|dm 0 rfl rfl<|dm 0 rfl rfl<|dx 0 rfl rfl ?_
   refine dx 0 rfl rfl<|dx 0 rfl rfl<|dx 0 rfl rfl<|dx 0 rfl rfl<|dx 0 rfl rfl<|dx 0 rfl rfl<|dx 0 rfl rfl ?_
   refine dx 0 rfl rfl<|dx 0 rfl rfl<|dx 0 rfl rfl<|dm 0 rfl rfl<|dm 0 rfl rfl<|Qa<|Qq ?_
   have Y5:=Gr.trans G1 G2
   have X8:=((Gr.refl w).trans Y5)
   cases hm
   exact⟨_,_,rfl,Qz rfl (Qn rfl),rfl,X8⟩
 refine dh 0 rfl rfl (fun w hS=>Qh Fa rfl)<|dh 0 rfl rfl (fun w hS=>Vk (vs:=Jb.cs p0.Group) Ml rfl (Bx.kp B3 hS) rfl rfl) ?_
 obtain⟨x1,j,hm⟩:=Qd hm
 refine qz [] rfl (eC Qzj rfl (Xda j)) ⟨fun _=>Qf,trivial⟩ ?_
 rintro _ w3 ⟨rfl,G3⟩
 have z4:=G3.size
 refine kG G3 ?_
 have S5:=((Kp.refl ([]) w2).gr G3)
 refine qh 0 rfl rfl S5 (fun w hS=>Zu (a:=x1) (b:=0) rfl rfl)<|dn 0 rfl rfl S5<|Qb9 hm 0 rfl rfl S5 (fun w hS=>Qt rfl) (fun c6 hm=>?_) (fun c6 hm=>?_)
 · refine qx 0 rfl rfl S5<|qx 0 rfl rfl S5<|qx 0 rfl rfl S5<|qx 0 rfl rfl S5<|qx 0 rfl rfl S5<|qx 0 rfl rfl S5<|qx 0 rfl rfl S5 ?_
   refine qx 0 rfl rfl S5<|qx 0 rfl rfl S5<|qx 0 rfl rfl S5<|qx 0 rfl rfl S5<|dn 0 rfl rfl S5<|dn 0 rfl rfl S5<|Qa ?_
   refine Qq ?_
   have X7:=((((Gr.refl w).trans G1).trans G2).trans G3)
   cases hm
   exact⟨_,_,rfl,Qz rfl (Qn rfl),rfl,X7⟩
 refine qh 0 rfl rfl S5 (fun w hS=>Qh Fa rfl)<|qh 0 rfl rfl S5 (fun w hS=>Qh Bn rfl)<|qh 0 rfl rfl S5 (fun w hS=>Qi (v:=wv p0.Group.Q) Zw rfl (Bx.kp B3 hS) rfl)<|qh 0 rfl rfl S5 (fun w hS=>Qh Wo rfl)<|qh 0 rfl rfl S5 (fun w hS=>Qi (v:=.int .i64 p0.Depth) Qm rfl (Bx.kp B3 hS) rfl) ?_
 obtain⟨nn2,hnn2,hm⟩:=Qd hm
 refine qh 0 rfl rfl S5 (fun w hS=>Tf (a:=1) (b:=p0.Depth) rfl rfl hnn2)<|qh 0 rfl rfl S5 (fun w hS=>Qh Bo rfl)<|qh 0 rfl rfl S5 (fun w hS=>Qi (v:=.int .i64 p0.Degree) Qm rfl (Bx.kp B3 hS) rfl)<|qh 0 rfl rfl S5 (fun w hS=>Zd (k:=.i64) (a:=Xw 1 nn2) (b:=p0.Degree) rfl rfl)<|qh 0 rfl rfl S5 (fun w hS=>Ww Wu rfl)<|qh 0 rfl rfl S5 (fun w hS=>Qng (c:=p0.Group.Q) (d:=wd (Qc ((Xw 1 nn2)+p0.Degree))) rfl rfl)<|dn 0 rfl rfl S5 ?_
 refine dn 0 rfl rfl S5<|Qa<|Qq ?_
 have X6:=((((Gr.refl w).trans G1).trans G2).trans G3)
 cases hm
 exact⟨_,_,rfl,Qz rfl (Qn rfl),rfl,X6⟩
theorem Qhk {p0 r}(hm:Tp p0=some r){w:World}:
 Calls Tryz.prog 30 [.agg (Qj.cs p0).toArray].toArray w fun e w'=>∃ v,e=.returned v∧(v=.int .i64 r∧Gr w w'):=by
 unfold Tp at hm
 refine Xi 6 Tryz.func30 rfl rfl rfl<|qs 2 rfl<|qe rfl (Xo (cs:=Qj.cs p0) rfl rfl) ?_
 rintro _ w1 ⟨b1,rfl,c,a,G1⟩
 have z1:=G1.size
 have d:=a.lt
 refine qm rfl<|Qa<|Qe<|qs 3 rfl<|qv rfl (Xa Zq rfl a rfl) ?_
 obtain⟨x1,b,hm⟩:=Qd hm
 refine qe rfl (eC Qjy rfl (Qm0 b)) ?_
 rintro _ w2 ⟨rfl,G2⟩
 have z3:=G2.size
 refine qv rfl (Kd rfl)<|Qa<|Jo hm rfl (fun c1 hm=>?_) (fun c1 hm=>?_)
 · refine qs 1 rfl<|qm rfl<|qb ?_
   have X4:=(((Gr.refl w).trans G1).trans G2)
   cases hm
   exact⟨_,_,rfl,Qz rfl (Qn rfl),rfl,X4⟩
 refine qu<|qs 1 rfl<|qm rfl<|Qa<|Qq ?_
 have X5:=(((Gr.refl w).trans G1).trans G2)
 cases hm
 exact⟨_,_,rfl,Qz rfl (Qn rfl),rfl,X5⟩
theorem Qjh {p0 r}(hm:Ug p0=some r){w:World}:
 Calls Tryz.prog 127 [.agg (Xj.cs p0).toArray].toArray w fun e w'=>∃ v,e=.returned v∧(v=.int .i64 r∧Gr w w'):=by
 unfold Ug at hm
 refine Xi 6 Tryz.func127 rfl rfl rfl<|qs 2 rfl<|qe rfl (Xo (cs:=Xj.cs p0) rfl rfl) ?_
 rintro _ w1 ⟨b1,rfl,d,c,G1⟩
 have z1:=G1.size
 have f:=c.lt
 refine qm rfl<|qd 4 rfl<|qv rfl (Qh Qqn rfl)<|qv rfl (Qi (v:=.int .i64 p0.depth) Qm rfl c rfl) ?_
 obtain⟨nn1,hnn1,hm⟩:=Qd hm
 refine qv rfl (Tf (a:=1) (b:=p0.depth) rfl rfl hnn1)<|qm rfl<|Qa<|Qq ?_
 have X3:=((Gr.refl w).trans G1)
 cases hm
 exact⟨_,_,rfl,Qz rfl (Qn rfl),rfl,X3⟩
theorem Qp1 {p0 p1 r}(hm:Ow p0 p1=some r){w:World}:
 Calls Tryz.prog 147 [.agg (Xj.cs p0).toArray,.int .i64 p1].toArray w fun e w'=>∃ v,e=.returned v∧(v=.bool r∧Gr w w'):=by
 unfold Ow at hm
 refine Xi 14 Tryz.func147 rfl rfl rfl<|qs 2 rfl<|qe rfl (Xo (cs:=Xj.cs p0) rfl rfl) ?_
 rintro _ w1 ⟨b1,rfl,f,c,G1⟩
 have z1:=G1.size
 have g:=c.lt
 refine qm rfl<|qd 10 rfl<|qm rfl<|qv rfl (Wk (a:=p1) (b:=1) rfl rfl)<|Vc hm rfl (Qt rfl) (fun c1 hm=>?_) (fun c1 hm=>?_)
 · refine qn 7 rfl ?_
   refine Qa<|Qq ?_
   have X5:=((Gr.refl w).trans G1)
   cases hm
   exact⟨_,_,rfl,Qz rfl (Qn rfl),rfl,X5⟩
 refine qm rfl<|qv rfl (Xa Ki rfl c rfl) ?_
 obtain⟨x1,d,hm⟩:=Qd hm
 refine qe rfl (eC Qjr rfl (Qjh d)) ?_
 rintro _ w2 ⟨rfl,G2⟩
 have z3:=G2.size
 refine qv rfl (Hw (k:=.i64) (a:=2) (b:=x1) rfl rfl)<|qv rfl (Jv (a:=p1) (b:=Qc (2*x1)) rfl rfl)<|qn 2 rfl<|Qa<|Qq ?_
 have X4:=(((Gr.refl w).trans G1).trans G2)
 cases hm
 exact⟨_,_,rfl,Qz rfl (Qn rfl),rfl,X4⟩
theorem My {p0 r}(hm:Ni p0=some r){w:World}:
 Calls Tryz.prog 129 [.int .i64 p0].toArray w fun e w'=>∃ v,e=.returned v∧(v=.int .i64 r∧Gr w w'):=by
 unfold Ni at hm
 refine Xi 7 Tryz.func129 rfl rfl rfl<|qs 1 rfl<|qm rfl<|qd 5 rfl ?_
 refine qm rfl<|qv rfl (Ww Qxx rfl)<|qe rfl (eC Qyi rfl (Xc0 (un (wd p0)) (Qif _) (by have:=Quz (wd p0);omega) _)) ?_
 rintro _ w1 ⟨rfl,G1⟩
 have z1:=G1.size
 refine qv rfl (Vx (k:=.i64) (a:=lg (un (wd p0))) (b:=1) rfl rfl)<|qm rfl<|Qa<|Qq ?_
 have X2:=((Gr.refl w).trans G1)
 cases hm
 exact⟨_,_,rfl,Qz rfl (Qn rfl),rfl,X2⟩
theorem Qxs {p0 p1 r}(hm:Oq p0 p1=some r){w:World}:
 Calls Tryz.prog 148 [.int .i64 p0,.int .i64 p1].toArray w fun e w'=>∃ v,e=.returned v∧(v=.bool r∧Gr w w'):=by
 unfold Oq at hm
 refine Xi 27 Tryz.func148 rfl rfl rfl<|qs 1 rfl<|qm rfl<|Qa<|Qe<|qj (β:=Bool) (rg 5 13) (fun a1=>[(17,.bool a1)]) (fun a1 wr=>(Ot p0 p1 a1=some r)∧Kz [] w wr) ?_ ?_
 · refine qg 13 rfl<|qm rfl<|qv rfl (Jv (a:=p0) (b:=1) rfl rfl)<|Ji hm rfl (Qt rfl) (fun c2 hm=>?_) (fun c2 hm=>?_)
   · refine qn 7 rfl ?_
     refine qn 3 rfl<|Qk ?_
     exact⟨rfl,true,Ql,hm,Xe⟩
   refine qm rfl<|qv rfl (Jv (a:=p1) (b:=1) rfl rfl)<|qm rfl<|Ji hm rfl (Qt rfl) (fun c3 hm=>?_) (fun c3 hm=>?_)
   · refine qn 6 rfl<|Qk ?_
     exact⟨rfl,true,Ql,hm,Xe⟩
   refine qm rfl ?_
   obtain⟨x5,c,hm⟩:=Qd hm
   refine qe rfl (eC Uj rfl (My c)) ?_
   rintro _ w4 ⟨rfl,G4⟩
   have z8:=G4.size
   refine qm rfl ?_
   obtain⟨x6,d,hm⟩:=Qd hm
   refine qe rfl (eC Uj rfl (My d)) ?_
   rintro _ w5 ⟨rfl,G5⟩
   have z9:=G5.size
   refine qv rfl (Jv (a:=x5) (b:=x6) rfl rfl)<|qm rfl<|Qk ?_
   exact⟨rfl,(decide (x5<x6)),Ql,hm,((Xe.gr G4).gr G5)⟩
 clear hm;rintro a1 w1 ⟨hm,K1⟩
 have z1:=K1.size
 unfold Ot at hm
 refine Jo hm rfl (fun c1 hm=>?_) (fun c1 hm=>?_)
 · refine qs 1 rfl<|qm rfl<|qb ?_
   have X2:=((Gr.refl w).kz K1)
   cases hm
   exact⟨_,_,rfl,Qz rfl (Qn rfl),rfl,X2⟩
 refine qu<|qs 10 rfl<|qn 2 rfl ?_
 obtain⟨x2,f,hm⟩:=Qd hm
 refine qe rfl (eC Uj rfl (My f)) ?_
 rintro _ w2 ⟨rfl,G2⟩
 have z3:=G2.size
 refine qm rfl ?_
 obtain⟨x3,g,hm⟩:=Qd hm
 refine qe rfl (eC Uj rfl (My g)) ?_
 rintro _ w3 ⟨rfl,G3⟩
 have z4:=G3.size
 refine qv rfl (Vx (k:=.i64) (a:=x2) (b:=x3) rfl rfl) ?_
 obtain⟨nn4,hnn4,hm⟩:=Qd hm
 refine qv rfl (Qin (a:=p0) (b:=(Qc (x2-x3))) rfl rfl hnn4)<|qm rfl<|qv rfl (Zu (a:=Rh p0 nn4) (b:=p1) rfl rfl)<|qm rfl<|Qa<|Qq ?_
 have X5:=((((Gr.refl w).kz K1).trans G2).trans G3)
 cases hm
 exact⟨_,_,rfl,Qz rfl (Qn rfl),rfl,X5⟩
theorem Qji {p0 p1 r}(hm:Li p0 p1=some r){w:World}:
 Calls Tryz.prog 78 [.agg (Xj.cs p0).toArray,.int .i64 p1].toArray w fun e w'=>∃ v,e=.returned v∧(v=.bool r∧Gr w w'):=by
 unfold Li at hm
 refine Xi 11 Tryz.func78 rfl rfl rfl<|qs 2 rfl<|qe rfl (Xo (cs:=Xj.cs p0) rfl rfl) ?_
 rintro _ w1 ⟨b1,rfl,g,c,G1⟩
 have z1:=G1.size
 have h:=c.lt
 refine qm rfl<|Qa<|Qe<|dw [([])] [] (.leaf [(0,10),(2,10),(3,10),(1,0),(4,10),(5,10),(6,10)]) ?_
 intro w2 G2 i
 refine Zz<|dm 0 rfl rfl<|dh 0 rfl rfl (fun w hS=>Qh Qcu rfl) ?_
 have B3:=(c.gr G2)
 refine dh 0 rfl rfl (fun w hS=>Qi (v:=.int .i64 p0.stride) Qm rfl (Bx.kp B3 hS) rfl) ?_
 obtain⟨x1,d,hm⟩:=Qd hm
 refine qz [] rfl (eC Uj rfl (My d)) ⟨fun _=>Qf,trivial⟩ ?_
 rintro _ w3 ⟨rfl,G3⟩
 have z4:=G3.size
 refine kG G3 ?_
 obtain⟨x2,f,hm⟩:=Qd hm
 have S5:=((Kp.refl ([]) w2).gr G3)
 refine qh 0 rfl rfl S5 (fun w hS=>Qnj (a:=x1) (b:=p0.stride) rfl rfl f)<|qh 0 rfl rfl S5 (fun w hS=>Zu (a:=x2) (b:=0) rfl rfl)<|dn 0 rfl rfl S5<|Qa<|Qq ?_
 have X6:=((((Gr.refl w).trans G1).trans G2).trans G3)
 cases hm
 exact⟨_,_,rfl,Qz rfl (Qn rfl),rfl,X6⟩
theorem Qjg {p0 p1 r}(hm:Ua p0 p1=some r){w:World}:
 Calls Tryz.prog 99 [.int .i64 p0,.int .i64 p1].toArray w fun e w'=>∃ v,e=.returned v∧(∃ bc0 bc1,v=.func (.func 149) #[] [.pointer (some ⟨bc0,0,none⟩),.pointer (some ⟨bc1,0,none⟩)].toArray∧Bx w' bc0 149 ([.int .i64 r.1])∧(w.heap.size≤bc0)∧Bx w' bc1 149 ([.int .i64 r.2])∧(w.heap.size≤bc1)∧Gr w w'):=by
 unfold Ua at hm
 refine Xi 6 Tryz.func99 rfl rfl rfl<|qs 3 rfl<|qe rfl (Xo (cs:=[.int .i64 p0]) rfl rfl) ?_
 rintro _ w1 ⟨b1,rfl,c,a,G1⟩
 have z1:=G1.size
 have f:=a.lt
 refine qe rfl (Xo (cs:=[.int .i64 p1]) rfl rfl) ?_
 rintro _ w2 ⟨b2,rfl,d,b,G2⟩
 have z3:=G2.size
 have g:=b.lt
 refine qm rfl<|qd 2 rfl<|qv rfl (Tu rfl rfl)<|qm rfl<|Qa ?_
 refine Qq ?_
 have B5:=(a.gr G2)
 have X6:=(((Gr.refl w).trans G1).trans G2)
 cases hm
 exact⟨_,_,rfl,Qz rfl (Qn rfl),b1,b2,rfl,B5,by omega,b,by omega,X6⟩
theorem Qew {p0 p1 r}(hm:Ba p0 p1=some r){w:World}:
 Calls Tryz.prog 98 [.int .i64 p0,.int .i64 p1].toArray w fun e w'=>∃ v,e=.returned v∧(v=.int .i64 r∧Gr w w'):=by
 unfold Ba at hm
 refine Xi 13 Tryz.func98 rfl rfl rfl<|qs 1 rfl<|qm rfl<|qd 9 rfl ?_
 refine qn 2 rfl ?_
 obtain⟨x1,c,hm⟩:=Qd hm
 refine qe rfl (eC Uj rfl (My c)) ?_
 rintro _ w1 ⟨rfl,G1⟩
 have z1:=G1.size
 refine qm rfl ?_
 obtain⟨x2,d,hm⟩:=Qd hm
 refine qe rfl (eC Uj rfl (My d)) ?_
 rintro _ w2 ⟨rfl,G2⟩
 have z2:=G2.size
 refine qv rfl (Vx (k:=.i64) (a:=x1) (b:=x2) rfl rfl)<|qv rfl (Vx (k:=.i64) (a:=Qc (x1-x2)) (b:=1) rfl rfl) ?_
 obtain⟨nn3,hnn3,hm⟩:=Qd hm
 refine qv rfl (Qin (a:=p1) (b:=(Qc ((Qc (x1-x2))-1))) rfl rfl hnn3)<|qm rfl<|Qa<|Qq ?_
 have X3:=(((Gr.refl w).trans G1).trans G2)
 cases hm
 exact⟨_,_,rfl,Qz rfl (Qn rfl),rfl,X3⟩
theorem Qjf (p1:Int)(p2:Int)(bp1:Nat)(bp2:Nat)(xs:List Int)(hm:Ou p1 p2=some xs)(w0:World)(hbp1:Bx w0 bp1 149 ([.int .i64 p1]))(hbp2:Bx w0 bp2 149 ([.int .i64 p2])):
 IT Tryz.prog 149 [.pointer (some ⟨bp1,0,none⟩),.pointer (some ⟨bp2,0,none⟩)] (xs.map (fun(x:Int)=>([.int .i64 x]:List Value))) ([bp1]++[bp2]) w0:=by
 intro l J Jx w fp hG hJ hJx hcap h0 hY
 have c1:=Bx.gr hbp1 hG
 have A:=c1.lt
 have o:bp1∉fp:=hcap _ (by simp)
 have c4:=Bx.gr hbp2 hG
 have B:=c4.lt
 have p:bp2∉fp:=hcap _ (by simp)
 have hd:=Qcm xs
 unfold Ou at hm
 refine Xi 16 Tryz.func149 rfl rfl rfl<|qs 2 rfl<|qv rfl (Qi (v:=.int .i64 p1) Wp rfl c1 rfl)<|qm rfl<|Qa<|Xn ?_
 refine Kf (α:=Nat × Int × Nat × List Nat × List Int) ([4]++rg 6 10) (fun⟨n1,a2,kk,fpl,rl⟩=>[(4,.int .i64 a2)]) (fun⟨n1,a2,kk,fpl,rl⟩ wr=>(Qv (Ub p2) n1 a2=some rl)∧Dr xs kk rl∧J kk fpl wr∧(∀ c∈fpl,c∈fp∨w.heap.size≤c)∧Kp fp w wr∧Bx wr bp1 149 ([.int .i64 p1])∧Bx wr bp2 149 ([.int .i64 p2])∧bp1∉fpl∧bp2∉fpl∧True) (fun⟨n1,a2,kk,fpl,rl⟩=>n1) ⟨Xb,p1,0,fp,xs⟩ ?_ ?_ ?_
 · exact Ql
 · exact⟨hm,hd,h0,(fun c hc=>Or.inl hc),(Kp.refl fp w),c1,c4,o,p,trivial⟩
 clear hm;rintro⟨n1,a2,j,fpl1,rl1⟩ w1 ⟨hm,dl1,JLw1,sl1,KLw1,f,d,g,h,-⟩
 have z7:=KLw1.size
 have C:=f.lt
 have D:=d.lt
 have hb:=Kl hm;clear hm;obtain⟨n1,rfl,hm⟩:=hb
 generalize k:Qv (Ub p2) n1=z at hm
 unfold Ub at hm
 try dsimp only at hm
 refine Qe<|qs 3 rfl<|qm rfl<|qv rfl (Qi (v:=.int .i64 p2) Wp rfl d rfl)<|qv rfl (Kg (a:=a2) (b:=p2) rfl rfl)<|Qa ?_
 refine Kx hm rfl (fun c1 hm=>?_) (fun c1 hm=>?_)
 · refine Jl<|Xu<|Xu<|Jk ?_
   have he:=Option.some.inj hm
   have hl:=Dr.last (c:=(fun(x:Int)=>([.int .i64 x]:List Value))) dl1 he.symm
   refine⟨_,_,rfl,Hj rfl,KLw1,.inl ⟨_,sl1,?_⟩⟩
   rw[←hl];exact JLw1
 refine qu<|Xn<|qs 4 rfl<|qm rfl<|qv rfl (Qi (v:=.int .i64 p2) Wp rfl d rfl) ?_
 obtain⟨x3,q,hm⟩:=Qd hm
 refine qe rfl (eC Qfc rfl (Qew q)) ?_
 rintro _ w2 ⟨rfl,G2⟩
 have E:=G2.size
 refine qm rfl<|qd 4 rfl<|qn 2 rfl ?_
 have r:=(hJ.gr JLw1 G2)
 have KI13:Kp fp w w2:=(KLw1.gr G2)
 obtain⟨rr11,hm,he11⟩:=Aq hm
 have i:=Dr.at dl1 he11
 have hd11:=Dr.next dl1 he11
 have s:=(f.gr G2)
 have t:=(d.gr G2)
 refine qe rfl (Bj rfl rfl (hY _ _ _ _ (Gu i) r KI13 sl1)) ?_
 rintro _ w3 ⟨bb,rfl,KF11,e,hg11,hJb⟩
 have F:=KF11.size
 have sub11:∀ c∈e,c∈fp∨w.heap.size≤c:=Na sl1 hg11 (by omega)
 have m:=Ke hg11 g (by omega)
 have n:=Ke hg11 h (by omega)
 cases bb
 · have Jy11:Jx (j+1) e w3:=hJb
   refine qv rfl (Kd rfl)<|Qa<|Nb rfl<|Qq<|Jf<|Xz<|Jf ?_
   have KI19:Kp fp w w3:=(KI13.trans KF11 sl1)
   exact⟨_,_,rfl,Hj rfl,KI19,.inr ⟨_,_,sub11,(by rw[List.length_map];exact(List.getElem?_eq_some_iff.1 i).1),Jy11⟩⟩
 have Jy11:J (j+1) e w3:=hJb
 refine qv rfl (Kd rfl)<|Qa<|Ty rfl<|Jn<|Xh ?_
 have KI20:Kp fp w w3:=(KI13.trans KF11 sl1)
 have u:=(Bx.kp s KF11 g)
 have y:=(Bx.kp t KF11 h)
 subst k
 exact⟨rfl,⟨n1,x3,(j+1),e,rr11⟩,Ql,⟨hm,hd11,Jy11,sub11,KI20,u,y,m,n,trivial⟩,Nat.lt_succ_self _⟩
theorem Qxq {g h f bp0_0 bp0_1 r}(hm:Qet g h f=some r){w:World}(hbp0_0:Bx w bp0_0 149 ([.int .i64 g]))(hbp0_1:Bx w bp0_1 149 ([.int .i64 h])):
 Calls Tryz.prog 128 [.func (.func 149) [].toArray [.pointer (some ⟨bp0_0,0,none⟩),.pointer (some ⟨bp0_1,0,none⟩)].toArray,.func (.func 78) [.agg (Xj.cs f).toArray].toArray [].toArray].toArray w fun e w'=>∃ v,e=.returned v∧(v=.int .i64 r∧Gr w w'):=by
 have aa:=hbp0_0.lt
 have ab:=hbp0_1.lt
 unfold Qet at hm
 refine Xi 12 Tryz.func128 rfl rfl rfl<|qs 2 rfl<|qe rfl (Xo rfl rfl) ?_
 rintro _ w1 ⟨b1,rfl,Q,t,G1⟩
 have z3:=G1.size
 have ac:=t.lt
 refine qe rfl (Xg (cs:=[.int .i64 0]) Qiw rfl) ?_
 rintro _ w2 ⟨b2,rfl,R,u,G2⟩
 have z5:=G2.size
 have ad:=u.lt
 refine Qa<|Qe<|qs 1 rfl<|qm rfl<|Qa<|Xn ?_
 have B7:=((hbp0_0.gr G1).gr G2)
 have B8:=((hbp0_1.gr G1).gr G2)
 obtain⟨l1,y,hm⟩:=Qd hm
 have X9:=(((Gr.refl w).trans G1).trans G2)
 have z:=(t.gr G2)
 refine Rl (gf:=149) rfl Qjs (Qjf g h _ _ _ y _ B7 B8) (by intro x hx;obtain⟨a,_,rfl⟩:=List.mem_map.1 hx;rfl) rfl _ _ ([b2]) (Sa (α:=Int) (fun a3 rk=>Js (Oo f) Qcj (List.drop rk l1) a3=some r) (fun a3=>([b2])) (fun a3 W=>Bx W b2 149 ([.int .i64 a3])∧True) (by rintro a3 W ⟨F0,_⟩ b hb;have q0:=F0.lt;replace hb:b∈([b2]):=hb;simp only[List.mem_cons,List.mem_append,Xt,List.not_mem_nil,or_false,false_or,not_or,ne_eq,List.nil_append,List.cons_append,true_and,and_true,false_and,and_false,not_true_eq_false,not_false_eq_true,or_true,true_or] at hb;omega) (by rintro a3 W W' ⟨F0,_⟩ E hs;replace hs:∀ b∈([b2]),W'.heap[b]? = W.heap[b]? := hs;exact⟨(hs _ (by simp)).trans F0,trivial⟩)) (fun c=>(Qu5 (c=.ret) (Sa (α:=Int) (fun a3 rk=>Qjd a3=some r) (fun a3=>([b2])) (fun a3 W=>Bx W b2 149 ([.int .i64 a3])∧True) (by rintro a3 W ⟨F0,_⟩ b hb;have q0:=F0.lt;replace hb:b∈([b2]):=hb;simp only[List.mem_cons,List.mem_append,Xt,List.not_mem_nil,or_false,false_or,not_or,ne_eq,List.nil_append,List.cons_append,true_and,and_true,false_and,and_false,not_true_eq_false,not_false_eq_true,or_true,true_or] at hb;omega) (by rintro a3 W W' ⟨F0,_⟩ E hs;replace hs:∀ b∈([b2]),W'.heap[b]? = W.heap[b]? := hs;exact⟨(hs _ (by simp)).trans F0,trivial⟩)))) (by intro b hb;simp only[List.mem_cons,List.mem_append,Xt,List.not_mem_nil,or_false,false_or,not_or,ne_eq,List.nil_append,List.cons_append,true_and,and_true,false_and,and_false,not_true_eq_false,not_false_eq_true,or_true,true_or] at hb ⊢;omega) ⟨0,hm,rfl,u,trivial⟩ ?_ ?_ ?_
 · rintro l rk x fp w3 hl hx _ K3 hF hln Jc
   clear hm
   obtain⟨e4,hxe,rfl⟩:=map_some hx
   have A:Kz [(1,b2)] w2 w3:=Ta K3 (by intro k hk;simp only[Zh,and_true,List.mem_cons,List.mem_append,Xt,List.not_mem_nil,or_false,false_or,not_or,ne_eq,List.nil_append,List.cons_append,true_and,and_true,false_and,and_false,not_true_eq_false,not_false_eq_true,or_true,true_or] at hk ⊢;omega)
   have ae:=K3.size
   refine qg 1 rfl<|qm rfl<|Qk<|⟨rfl,(Gr.refl _),?_⟩
   rintro w4 M4 ⟨a3,hm,rfl,d,-⟩
   have af:=M4.size
   have S:=d.lt
   replace hm:=Br hm hxe
   generalize hnx1:Js (Oo f) Qcj (List.drop (rk+1) l1)=ag at hm
   unfold Oo at hm
   try dsimp only at hm
   refine Xn<|qs 3 rfl ?_
   have B:=((z.kz A).md M4)
   refine qv rfl (Qi Xdj rfl B rfl)<|qm rfl ?_
   obtain⟨x5,C,hm⟩:=Qd hm
   refine qe rfl (Yu Qk2 rfl rfl (Qji C)) ?_
   rintro _ w5 ⟨rfl,G5⟩
   have ah:=G5.size
   refine Qa<|Jo hm rfl (fun c1 hm=>?_) (fun c1 hm=>?_)
   · refine qs 2 rfl<|qm rfl ?_
     have D:=(d.gr G5)
     refine qe rfl (Zp (cs':=[.int .i64 e4]) (Wp).siz rfl rfl rfl D rfl rfl) ?_
     rintro _ w6 ⟨F,M6⟩
     have ai:=M6.size
     refine Qa<|Qq<|Jf ?_
     have K_18:Kz [(1,b2)] w4 w6:=((Kz.gr (Kz.refl _ _) G5).md M6)
     have Kq18:Kp ([b2]) w4 w6:=Lo K_18 (by intro k hk;simp only[Zh,and_true,List.mem_cons,List.mem_append,Xt,List.not_mem_nil,or_false,false_or,not_or,ne_eq,List.nil_append,List.cons_append,true_and,and_true,false_and,and_false,not_true_eq_false,not_false_eq_true,or_true,true_or] at hk ⊢;omega)
     exact⟨Kq18,([b2]),(by intro c hc;simp only[List.mem_cons,List.mem_append,Xt,List.not_mem_nil,or_false,false_or,not_or,ne_eq,List.nil_append,List.cons_append,true_and,and_true,false_and,and_false,not_true_eq_false,not_false_eq_true,or_true,true_or] at hc ⊢;omega),⟨rfl,e4,hm,rfl,F,trivial⟩⟩
   refine Jn<|Xh ?_
   have G:=(d.gr G5)
   have K_19:Kz [(1,b2)] w4 w5:=(Kz.gr (Kz.refl _ _) G5)
   have Kq19:Kp ([b2]) w4 w5:=Lo K_19 (by intro k hk;simp only[Zh,and_true,List.mem_cons,List.mem_append,Xt,List.not_mem_nil,or_false,false_or,not_or,ne_eq,List.nil_append,List.cons_append,true_and,and_true,false_and,and_false,not_true_eq_false,not_false_eq_true,or_true,true_or] at hk ⊢;omega)
   subst hnx1
   exact⟨Kq19,([b2]),(by intro c hc;simp only[List.mem_cons,List.mem_append,Xt,List.not_mem_nil,or_false,false_or,not_or,ne_eq,List.nil_append,List.cons_append,true_and,and_true,false_and,and_false,not_true_eq_false,not_false_eq_true,or_true,true_or] at hc ⊢;omega),⟨a3,hm,rfl,G,trivial⟩⟩
 · clear hm;rintro o fp w7 T m H ⟨a3,hm,rfl,i,-⟩ K7
   replace hm:=Bs hm
   have I:Kz [(1,b2)] w2 w7:=Ta K7 (by intro k hk;simp only[Zh,and_true,List.mem_cons,List.mem_append,Xt,List.not_mem_nil,or_false,false_or,not_or,ne_eq,List.nil_append,List.cons_append,true_and,and_true,false_and,and_false,not_true_eq_false,not_false_eq_true,or_true,true_or] at hk ⊢;omega)
   have aj:=K7.size
   have U:=Df.lt (w:=w7) m
   simp only[List.mem_cons,List.mem_append,Xt,List.not_mem_nil,or_false,false_or,not_or,ne_eq,List.nil_append,List.cons_append,true_and,and_true,false_and,and_false,not_true_eq_false,not_false_eq_true,or_true,true_or,not_and] at H
   have V:=i.lt
   unfold Qcj at hm
   try dsimp only at hm
   refine Xh<|Xl<|qs 1 rfl<|qe rfl (Zp (cs':=[.int .i64 0]) (Wp).siz rfl rfl rfl i rfl rfl) ?_
   rintro _ w8 ⟨J,M8⟩
   have ak:=M8.size
   refine Qa<|Qq ?_
   have DL25:=(Df.md m M8)
   have p:=Md.put (w:=w8) o (.deferred none)
   have zL25:=p.size
   have K:=(J.md p)
   have L:Gr w (w8.putObj o (.deferred none)):=(((X9.kz I).md M8).md p)
   cases hm
   refine⟨_,_,⟨o,rfl,DL25,rfl⟩,Qz rfl (Qbe Wp rfl K),?_⟩
   exact⟨rfl,L⟩
 clear hm;rintro q c rk fp w9 X n M hle ⟨rfl,a3,hm,rfl,j,-⟩ K9
 have N:Kz [(1,b2)] w2 w9:=Ta K9 (by intro k hk;simp only[Zh,and_true,List.mem_cons,List.mem_append,Xt,List.not_mem_nil,or_false,false_or,not_or,ne_eq,List.nil_append,List.cons_append,true_and,and_true,false_and,and_false,not_true_eq_false,not_false_eq_true,or_true,true_or] at hk ⊢;omega)
 have al:=K9.size
 have Y:=Df.lt (w:=w9) n
 simp only[List.mem_cons,List.mem_append,Xt,List.not_mem_nil,or_false,false_or,not_or,ne_eq,List.nil_append,List.cons_append,true_and,and_true,false_and,and_false,not_true_eq_false,not_false_eq_true,or_true,true_or,not_and] at M
 have Z:=j.lt
 unfold Qjd at hm
 try dsimp only at hm
 refine Qq<|Jf<|Xz ?_
 have DL31:=n
 have s:=Md.put (w:=w9) q (.deferred none)
 have zL31:=s.size
 have O:=(j.md s)
 have P:Gr w (w9.putObj q (.deferred none)):=((X9.kz N).md s)
 cases hm
 refine⟨_,_,⟨q,rfl,DL31,rfl⟩,Qz rfl (Qbe Wp rfl O),?_⟩
 exact⟨rfl,P⟩
theorem Qp0 {p0 p1 p2 r}(hm:Sl p0 p1 p2=some r){w:World}:
 Calls Tryz.prog 77 [.agg (Xj.cs p0).toArray,.int .i64 p1,.int .i64 p2].toArray w fun e w'=>∃ v,e=.returned v∧(v=.int .i64 r∧Gr w w'):=by
 unfold Sl at hm
 refine Xi 14 Tryz.func77 rfl rfl rfl<|qs 2 rfl<|qe rfl (Xo (cs:=Xj.cs p0) rfl rfl) ?_
 rintro _ w1 ⟨b1,rfl,m,f,G1⟩
 have z1:=G1.size
 have n:=f.lt
 refine qm rfl<|Qa<|Qe<|dw [([])] [] (.leaf [(0,10),(1,10),(2,10),(4,10),(5,10),(3,0),(6,0),(7,10)]) ?_
 intro w2 G2 o
 refine Zz<|dm 0 rfl rfl<|dm 0 rfl rfl ?_
 obtain⟨nn1,hnn1,hm⟩:=Qd hm
 refine dh 0 rfl rfl (fun w hS=>Qin (a:=p2) (b:=(un 1#64)) rfl rfl hnn1) ?_
 have B3:=(f.gr G2)
 refine dh 0 rfl rfl (fun w hS=>Xa Ki rfl (Bx.kp B3 hS) rfl)<|dh 0 rfl rfl (fun w hS=>Tu rfl rfl) ?_
 obtain⟨x2,k,hm⟩:=Qd hm
 refine qz [] rfl (eC Qk4 rfl (Qjg k)) ⟨fun _=>Qf,trivial⟩ ?_
 rintro _ w3 ⟨g,h,rfl,c,i,d,j,G3⟩
 have z4:=G3.size
 have p:=c.lt
 have q:=d.lt
 refine kG G3 ?_
 obtain⟨x3,l,hm⟩:=Qd hm
 refine qz [] rfl (eC Qyh rfl (Qxq l c d)) ⟨fun _=>Qf,trivial⟩ ?_
 rintro _ w4 ⟨rfl,G4⟩
 have z7:=G4.size
 refine kG G4 ?_
 have S8:=(((Kp.refl ([]) w2).gr G3).gr G4)
 refine dn 0 rfl rfl S8<|Qa<|Qq ?_
 have X9:=(((((Gr.refl w).trans G1).trans G2).trans G3).trans G4)
 cases hm
 exact⟨_,_,rfl,Qz rfl (Qn rfl),rfl,X9⟩
theorem Qp7 {p0 p1 r}(hm:Lj p0 p1=some r){w:World}:
 Calls Tryz.prog 96 [.agg (Xj.cs p0).toArray,.agg (Qx.cs p1).toArray].toArray w fun e w'=>∃ v,e=.returned v∧(v=.bool r∧Gr w w'):=by
 unfold Lj at hm
 refine Xi 68 Tryz.func96 rfl rfl rfl<|qs 3 rfl<|qe rfl (Xo (cs:=Xj.cs p0) rfl rfl) ?_
 rintro _ w1 ⟨b1,rfl,F,f,G1⟩
 have z1:=G1.size
 have H:=f.lt
 refine qe rfl (Xo (cs:=Qx.cs p1) rfl rfl) ?_
 rintro _ w2 ⟨b2,rfl,G,g,G2⟩
 have z3:=G2.size
 have I:=g.lt
 refine qm rfl<|Qa<|Qe<|dw [([])] [] (.leaf [(0,10),(1,10),(2,10),(3,10),(4,10),(5,10)]) ?_
 intro w3 G3 J
 refine Zz<|dh 0 rfl rfl (fun w hS=>Qh Qae rfl) ?_
 have B5:=(g.gr G3)
 refine dh 0 rfl rfl (fun w hS=>Qi (v:=.int .i64 p1.Node) Qm rfl (Bx.kp B5 hS) rfl)<|dh 0 rfl rfl (fun w hS=>Qh Qaf rfl)<|dh 0 rfl rfl (fun w hS=>Qi (v:=.int .i64 p1.Minus) Qm rfl (Bx.kp B5 hS) rfl)<|dm 0 rfl rfl<|dm 0 rfl rfl<|Qa<|Qe ?_
 refine Xn<|qs 6 rfl ?_
 have B6:=((f.gr G2).gr G3)
 refine qv rfl (Xa Ki rfl B6 rfl)<|qv rfl (Qh Qae rfl)<|qv rfl (Qi (v:=.int .i64 p1.Node) Qm rfl B5 rfl) ?_
 obtain⟨x1,i,hm⟩:=Qd hm
 refine qe rfl (eC Qpt rfl (Qp1 i)) ?_
 rintro _ w4 ⟨rfl,G4⟩
 have z7:=G4.size
 refine qv rfl (Kd rfl)<|qm rfl<|Qa<|Jo hm rfl (fun c1 hm=>?_) (fun c1 hm=>?_)
 · refine qs 1 rfl<|qm rfl<|Qa<|Qq<|Jf<|Xz ?_
   have Y1:=Gr.trans (Gr.trans (Gr.trans G1 G2) G3) G4
   have X8:=((Gr.refl w).trans Y1)
   cases hm
   exact⟨_,_,rfl,Qz rfl (Qn rfl),rfl,X8⟩
 have Y2:=Gr.trans (Gr.trans (Gr.trans G1 G2) G3) G4
 have X9:=((Gr.refl w).trans Y2)
 refine qj (β:=Bool) (rg 17 8) (fun a2=>[(17,.bool a2)]) (fun a2 wr=>(Qa0 p0 p1 a2=some r)∧Kz [] w4 wr) ?_ ?_
 · refine qg 8 rfl<|qv rfl (Qh Ut rfl) ?_
   have j:=(B6.gr G4)
   refine qv rfl (Qi (v:=bv p0.kind) Zb rfl j rfl)<|qv rfl (Vt (p:=p0.kind) (q:=1#8) rfl rfl)<|Ji hm rfl (Qt rfl) (fun k hm=>?_) (fun k hm=>?_)
   · refine qn 4 rfl<|Qk ?_
     exact⟨rfl,true,Ql,hm,Xe⟩
   refine qm rfl<|qv rfl (Zu (a:=p1.Minus) (b:=0) rfl rfl)<|qn 2 rfl<|Qk ?_
   exact⟨rfl,(decide (p1.Minus=0)),Ql,hm,Xe⟩
 clear hm;rintro a2 w5 ⟨hm,K5⟩
 have K:=K5.size
 unfold Qa0 at hm
 refine Jo hm rfl (fun c2 hm=>?_) (fun c2 hm=>?_)
 · refine qs 12 rfl<|qm rfl<|qv rfl (Zu (a:=p1.Minus) (b:=0) rfl rfl)<|Vc hm rfl (Qt rfl) (fun c3 hm=>?_) (fun c3 hm=>?_)
   · refine qn 7 rfl ?_
     refine qn 2 rfl<|Qa<|Qq<|Jf<|Xz ?_
     have l:=(X9.kz K5)
     cases hm
     exact⟨_,_,rfl,Qz rfl (Qn rfl),rfl,l⟩
   refine qv rfl (Qh Ut rfl) ?_
   have m:=((B6.gr G4).kz K5)
   refine qv rfl (Qi (v:=bv p0.kind) Zb rfl m rfl)<|qv rfl (Vt (p:=p0.kind) (q:=1#8) rfl rfl)<|Ji hm rfl (Qt rfl) (fun c4 hm=>?_) (fun c4 hm=>?_)
   · refine qn 5 rfl<|Qa<|Qq ?_
     refine Jf<|Xz ?_
     have n:=(X9.kz K5)
     cases hm
     exact⟨_,_,rfl,Qz rfl (Qn rfl),rfl,n⟩
   refine qm rfl<|qv rfl (Zu (a:=p1.Node) (b:=1) rfl rfl)<|qn 3 rfl<|Qa<|Qq ?_
   refine Jf<|Xz ?_
   have o:=(X9.kz K5)
   cases hm
   exact⟨_,_,rfl,Qz rfl (Qn rfl),rfl,o⟩
 have c:=(X9.kz K5)
 refine qj (β:=Bool) (rg 36 17) (fun a3=>[(36,.bool a3)]) (fun a3 wr=>(Uh p0 p1 a3=some r)∧Kz [] w5 wr) ?_ ?_
 · refine qg 17 rfl ?_
   have s:=((B6.gr G4).kz K5)
   refine qv rfl (Xa Ki rfl s rfl)<|qv rfl (Qh Qaf rfl) ?_
   have t:=((B5.gr G4).kz K5)
   refine qv rfl (Qi (v:=.int .i64 p1.Minus) Qm rfl t rfl) ?_
   obtain⟨x6,u,hm⟩:=Qd hm
   refine qe rfl (eC Qpt rfl (Qp1 u)) ?_
   rintro _ w9 ⟨rfl,G9⟩
   have L:=G9.size
   refine qv rfl (Kd rfl)<|Ch hm rfl (Qt rfl) (fun c8 hm=>?_) (fun c8 hm=>?_)
   · refine qn 7 rfl ?_
     refine qn 4 rfl<|Qk ?_
     exact⟨rfl,true,Ql,hm,(Xe.gr G9)⟩
   refine qn 2 rfl<|qv rfl (Zu (a:=p1.Minus) (b:=p1.Node) rfl rfl)<|qm rfl<|Ji hm rfl (Qt rfl) (fun c9 hm=>?_) (fun c9 hm=>?_)
   · refine qn 6 rfl<|Qk ?_
     exact⟨rfl,true,Ql,hm,(Xe.gr G9)⟩
   refine qn 2 rfl ?_
   obtain⟨x7,x,hm⟩:=Qd hm
   refine qe rfl (eC Qym rfl (Qxs x)) ?_
   rintro _ M ⟨rfl,h⟩
   have N:=h.size
   refine qv rfl (Kd rfl)<|qn 2 rfl<|Qk ?_
   exact⟨rfl,(!x7),Ql,hm,((Xe.gr G9).gr h)⟩
 clear hm;rintro a3 w6 ⟨hm,K6⟩
 have O:=K6.size
 unfold Uh at hm
 refine Jo hm rfl (fun c5 hm=>?_) (fun c5 hm=>?_)
 · refine qs 1 rfl<|qm rfl<|Qa<|Qq<|Jf<|Xz ?_
   have y:=(c.kz K6)
   cases hm
   exact⟨_,_,rfl,Qz rfl (Qn rfl),rfl,y⟩
 refine Jn<|Xh<|Xl<|qs 16 rfl<|qv rfl (Qh Ut rfl) ?_
 have d:=(((B6.gr G4).kz K5).kz K6)
 refine qv rfl (Qi (v:=bv p0.kind) Zb rfl d rfl)<|qv rfl (Vt (p:=p0.kind) (q:=2#8) rfl rfl)<|Ji hm rfl (Qt rfl) (fun c6 hm=>?_) (fun c6 hm=>?_)
 · refine qn 7 rfl ?_
   refine qn 5 rfl<|Qa<|Qq ?_
   have z:=(c.kz K6)
   cases hm
   exact⟨_,_,rfl,Qz rfl (Qn rfl),rfl,z⟩
 refine qv rfl (Xa Ki rfl d rfl)<|qm rfl ?_
 obtain⟨x4,A,hm⟩:=Qd hm
 refine qe rfl (eC Qk2 rfl (Qji A)) ?_
 rintro _ w7 ⟨rfl,G7⟩
 have P:=G7.size
 refine qm rfl<|Ch hm rfl (Qt rfl) (fun c7 hm=>?_) (fun c7 hm=>?_)
 · refine qn 7 rfl ?_
   refine Qa<|Qq ?_
   have B:=((c.kz K6).trans G7)
   cases hm
   exact⟨_,_,rfl,Qz rfl (Qn rfl),rfl,B⟩
 have C:=(d.gr G7)
 refine qv rfl (Xa Ki rfl C rfl)<|qn 2 rfl ?_
 obtain⟨x5,D,hm⟩:=Qd hm
 refine qe rfl (eC Qq5 rfl (Qp0 D)) ?_
 rintro _ w8 ⟨rfl,G8⟩
 have Q:=G8.size
 refine qv rfl (Zu (a:=x5) (b:=0) rfl rfl)<|qn 2 rfl<|Qa<|Qq ?_
 have E:=(((c.kz K6).trans G7).trans G8)
 cases hm
 exact⟨_,_,rfl,Qz rfl (Qn rfl),rfl,E⟩
theorem Qes {p0 p1 vp1 zp1 gp1 op1 r}(hm:Dw p0 p1=some r){w:World}(h:Rd w zp1 gp1 op1 2 vp1 (p1.map Qx.cs)):
 Calls Tryz.prog 53 [.agg (Qj.cs p0).toArray,vp1].toArray w fun e w'=>∃ v,e=.returned v∧(v=.tuple [.agg (Xj.cs r.1).toArray,.int .i64 r.2].toArray∧Gr w w'):=by
 have A:=h.lth
 unfold Dw at hm
 refine Xi 31 Tryz.func53 rfl rfl rfl<|qs 3 rfl<|qe rfl (Xo (cs:=Qj.cs p0) rfl rfl) ?_
 rintro _ w1 ⟨b1,rfl,O,j,G1⟩
 have z2:=G1.size
 have U:=j.lt
 refine qe rfl (Xg (cs:=Xj.cs (Xj.mk 0#8 0 0)) Sc rfl) ?_
 rintro _ w2 ⟨b2,rfl,P,d,G2⟩
 have z4:=G2.size
 have V:=d.lt
 refine qm rfl<|qd 8 rfl ?_
 have B6:=(j.gr G2)
 refine qv rfl (Xa Zq rfl B6 rfl) ?_
 obtain⟨x1,B,hm⟩:=Qd hm
 refine qe rfl (eC Qq7 rfl (Qoz B)) ?_
 rintro _ w3 ⟨rfl,G3⟩
 have z7:=G3.size
 refine qn 3 rfl<|qe rfl (Xg (cs:=Xj.cs (Xj.mk 0#8 0 0)) Sc rfl) ?_
 rintro _ w4 ⟨b4,rfl,Q,m,G4⟩
 have z8:=G4.size
 have W:=m.lt
 refine qe rfl (Xf Ki rfl rfl rfl m rfl rfl) ?_
 rintro _ w5 ⟨n,M5⟩
 have X:=M5.size
 refine qm rfl<|Qa<|Qe<|qs 2 rfl<|qm rfl<|qv rfl (Kd rfl) ?_
 refine Qa<|Jo hm rfl (fun c1 hm=>?_) (fun c1 hm=>?_)
 · refine qs 3 rfl<|qv rfl (Zk (cs:=Xj.cs (Xj.mk 0#8 0 0)) Qeh rfl rfl) ?_
   have Y1:=Gr.trans G3 G4
   have C:=((d.gr Y1).md M5)
   refine qe rfl (Xf Ki rfl rfl rfl C rfl rfl) ?_
   rintro _ w6 ⟨D,M6⟩
   have Y:=M6.size
   refine qm rfl<|qb ?_
   have Y2:=Gr.trans (Gr.trans G1 G2) Y1
   have E:=((((Gr.refl w).trans Y2).md M5).md M6)
   cases hm
   exact⟨_,_,rfl,Za rfl (Zf Ki rfl D rfl) (Qn rfl),rfl,E⟩
 refine qu<|Qe<|qs 3 rfl<|qm rfl ?_
 have Y3:=Gr.trans (Gr.trans (Gr.trans G1 G2) G3) G4
 have o:=((h.gr Y3).md M5 (Qw A))
 refine qv rfl (Kq (l:=p1) (c:=Qx.cs) Tryz.underlying101 rfl o)<|qm rfl<|Qa<|Xn ?_
 have p:=(((Gr.refl w).trans Y3).md M5)
 refine Kf (α:=Nat × Int) ([5,9]++rg 20 10) (fun⟨n1,a3⟩=>[(5,.int .i64 0),(20,.int .i64 a3)]) (fun⟨n1,a3⟩ wr=>(Qv (Rx p1 x1) n1 a3=some r)∧Kz [] w5 wr) (fun⟨n1,a3⟩=>n1) ⟨Xb,0⟩ ?_ ?_ ?_
 · exact Ql
 · exact⟨hm,Kz.refl _ _⟩
 clear hm;rintro⟨n1,a3⟩ w7 ⟨hm,K7⟩
 have Z:=K7.size
 have hb:=Kl hm;clear hm;obtain⟨n1,rfl,hm⟩:=hb
 generalize g:Qv (Rx p1 x1) n1=R at hm
 unfold Rx at hm
 try dsimp only at hm
 refine qs 1 rfl<|qv rfl (Jv (a:=a3) (b:=(p1.length:Int)) rfl rfl)<|Qa<|Qe<|Kx hm rfl (fun c2 hm=>?_) (fun c2 hm=>?_)
 · refine Jl<|Xu<|Xu<|Jk<|Xl<|qs 3 rfl ?_
   have F:=(n.kz K7)
   refine qv rfl (Xa Ki rfl F rfl) ?_
   have Y4:=Gr.trans G3 G4
   have G:=(((d.gr Y4).md M5).kz K7)
   refine qe rfl (Xf Ki rfl rfl rfl G rfl rfl) ?_
   rintro _ aa ⟨q,s⟩
   have ab:=s.size
   refine qm rfl<|Qa<|Qq ?_
   have H:=((p.kz K7).md s)
   cases hm
   exact⟨_,_,rfl,Za rfl (Zf Ki rfl q rfl) (Qn rfl),rfl,H⟩
 refine qu<|Qe<|Xn<|qs 4 rfl ?_
 obtain⟨y4,t,hm⟩:=Qd hm
 have u:=(o.kz K7)
 refine qv rfl (Yq (i:=a3) Tryz.underlying101 (Nd).siz rfl u rfl t)<|qv rfl (Qe2 Nd rfl u t (by first|rfl|omega))<|qe rfl (Xg (cs:=Qx.cs (Qx.mk 0 0)) Qiv rfl) ?_
 rintro _ w8 ⟨b8,rfl,S,x,G8⟩
 have ac:=G8.size
 have T:=x.lt
 refine qe rfl (Xf Nd rfl rfl rfl x rfl rfl) ?_
 rintro _ w9 ⟨I,M9⟩
 have ad:=M9.size
 refine qd 4 rfl ?_
 have J:=(((n.kz K7).gr G8).md M9)
 refine qv rfl (Xa Ki rfl J rfl)<|qv rfl (Xa Nd rfl I rfl) ?_
 obtain⟨x5,K,hm⟩:=Qd hm
 refine qe rfl (eC Qq8 rfl (Qp7 K)) ?_
 rintro _ L ⟨rfl,f⟩
 have ae:=f.size
 refine qv rfl (Kd rfl)<|Qa<|Si hm rfl (fun c3 hm=>?_) (fun c3 hm=>?_)
 · refine Jn<|Xh<|Xl<|qg 2 rfl<|qv rfl (Zd (k:=.i64) (a:=a3) (b:=1) rfl rfl)<|qm rfl<|Qk ?_
   have K_26:Kz [] w5 L:=(((K7.gr G8).md M9).gr f)
   subst g
   exact⟨rfl,⟨n1,Qc (a3+1)⟩,Ql,⟨hm,K_26⟩,Nat.lt_succ_self _⟩
 refine qs 3 rfl<|qv rfl (Zk (cs:=Xj.cs (Xj.mk 0#8 0 0)) Qeh rfl rfl) ?_
 have Y5:=Gr.trans G3 G4
 have M:=((((((d.gr Y5).md M5).kz K7).gr G8).md M9).gr f)
 refine qe rfl (Xf Ki rfl rfl rfl M rfl rfl) ?_
 rintro _ af ⟨y,z⟩
 have ag:=z.size
 refine qm rfl<|Qa<|Qq<|Jf<|Xz<|Xz<|Jf ?_
 refine Xz ?_
 have N:=(((((p.kz K7).trans G8).md M9).trans f).md z)
 cases hm
 exact⟨_,_,rfl,Za rfl (Zf Ki rfl y rfl) (Qn rfl),rfl,N⟩
theorem Qp4 {p0 p1 r}(hm:Qck p0 p1=some r){w:World}:
 Calls Tryz.prog 54 [.agg (Xj.cs p0).toArray,.int .i64 p1].toArray w fun e w'=>∃ v,e=.returned v∧(∃ bc0 bc1,v=.func (.func 97) #[] [.pointer (some ⟨bc0,0,none⟩),.pointer (some ⟨bc1,0,none⟩)].toArray∧Bx w' bc0 120 (Xj.cs r.1)∧(w.heap.size≤bc0)∧Bx w' bc1 3 ([.int .i64 r.2])∧(w.heap.size≤bc1)∧Gr w w'):=by
 unfold Qck at hm
 refine Xi 6 Tryz.func54 rfl rfl rfl<|qs 3 rfl<|qe rfl (Xo (cs:=Xj.cs p0) rfl rfl) ?_
 rintro _ w1 ⟨b1,rfl,c,a,G1⟩
 have z1:=G1.size
 have f:=a.lt
 refine qe rfl (Xo (cs:=[.int .i64 p1]) rfl rfl) ?_
 rintro _ w2 ⟨b2,rfl,d,b,G2⟩
 have z3:=G2.size
 have g:=b.lt
 refine qm rfl<|qd 2 rfl<|qv rfl (Tu rfl rfl)<|qm rfl<|Qa ?_
 refine Qq ?_
 have B5:=(a.gr G2)
 have X6:=(((Gr.refl w).trans G1).trans G2)
 cases hm
 exact⟨_,_,rfl,Qz rfl (Qn rfl),b1,b2,rfl,B5,by omega,b,by omega,X6⟩
theorem Qp5 {p0 p1 r}(hm:Ud p0 p1=some r){w:World}:
 Calls Tryz.prog 74 [.agg (Xj.cs p0).toArray,.int .i64 p1].toArray w fun e w'=>∃ v,e=.returned v∧(v=.int .i64 r∧Gr w w'):=by
 unfold Ud at hm
 refine Xi 9 Tryz.func74 rfl rfl rfl<|qs 2 rfl<|qe rfl (Xo (cs:=Xj.cs p0) rfl rfl) ?_
 rintro _ w1 ⟨b1,rfl,f,c,G1⟩
 have z1:=G1.size
 have g:=c.lt
 refine qm rfl<|qd 5 rfl<|qv rfl (Xa Ki rfl c rfl) ?_
 obtain⟨x1,d,hm⟩:=Qd hm
 refine qe rfl (eC Qjr rfl (Qjh d)) ?_
 rintro _ w2 ⟨rfl,G2⟩
 have z3:=G2.size
 refine qm rfl<|qv rfl (Zd (k:=.i64) (a:=x1) (b:=p1) rfl rfl)<|qm rfl<|Qa<|Qq ?_
 have X4:=(((Gr.refl w).trans G1).trans G2)
 cases hm
 exact⟨_,_,rfl,Qz rfl (Qn rfl),rfl,X4⟩
theorem Qev {p0 r}(hm:Rz p0=some r){w:World}:
 Calls Tryz.prog 76 [.int .i64 p0].toArray w fun e w'=>∃ v,e=.returned v∧(v=.int .i64 r∧Gr w w'):=by
 unfold Rz at hm
 refine Xi 5 Tryz.func76 rfl rfl rfl<|qs 1 rfl<|qm rfl<|qd 3 rfl ?_
 refine qm rfl<|qv rfl (Xh5 (a:=p0) (b:=1) (by simp) rfl rfl)<|qm rfl<|Qa<|Qq ?_
 cases hm
 exact⟨_,_,rfl,Qz rfl (Qn rfl),rfl,(Gr.refl w)⟩
theorem Qp3 (p1:Xj)(p2:Int)(bp1:Nat)(bp2:Nat)(xs:List (Int × Int))(hm:Ox p1 p2=some xs)(w0:World)(hbp1:Bx w0 bp1 120 (Xj.cs p1))(hbp2:Bx w0 bp2 3 ([.int .i64 p2])):
 IT Tryz.prog 97 [.pointer (some ⟨bp1,0,none⟩),.pointer (some ⟨bp2,0,none⟩)] (xs.map (fun(x:Int × Int)=>([.int .i64 x.1,.int .i64 x.2]:List Value))) ([bp1]++[bp2]) w0:=by
 intro l J Jx w fp hG hJ hJx hcap h0 hY
 have c1:=Bx.gr hbp1 hG
 have da:=c1.lt
 have aG:bp1∉fp:=hcap _ (by simp)
 have c4:=Bx.gr hbp2 hG
 have db:=c4.lt
 have aH:bp2∉fp:=hcap _ (by simp)
 have hd:=Qcm xs
 unfold Ox at hm
 refine Xi 48 Tryz.func97 rfl rfl rfl<|qs 1 rfl<|qe rfl (Xo rfl rfl) ?_
 rintro _ w1 ⟨b1,rfl,cH,aI,G1⟩
 have z7:=G1.size
 have dc:=aI.lt
 have aJ:b1∉fp:=fun h=>absurd (hJ.lt h0 _ h) (by omega)
 refine qd 4 rfl ?_
 have aK:=(c1.gr G1)
 refine qv rfl (Xa Ki rfl aK rfl) ?_
 have aL:=(c4.gr G1)
 refine qv rfl (Qi (v:=.int .i64 p2) Qm rfl aL rfl) ?_
 obtain⟨x1,bF,hm⟩:=Qd hm
 refine qe rfl (eC Qq4 rfl (Qp5 bF)) ?_
 rintro _ w2 ⟨rfl,G2⟩
 have bG:=(hJ.gr h0 G1)
 have de:=G2.size
 refine qm rfl<|Qa<|Qe<|qs 3 rfl ?_
 have aM:=(aI.gr G2)
 refine qv rfl (Qi Ql6 rfl aM rfl) ?_
 have bH:=(hJ.gr bG G2)
 have KI17:Kp fp w w2:=(((Kp.refl fp w).gr G1).gr G2)
 obtain⟨rr15,hm,he15⟩:=Aq hm
 have ae:=Dr.at hd he15
 have hd15:=Dr.next hd he15
 have bI:=(aK.gr G2)
 have bJ:=(aL.gr G2)
 refine qe rfl (Bj rfl rfl (hY _ _ _ _ (Gu ae) bH KI17 (fun c hc=>Or.inl hc))) ?_
 rintro _ w3 ⟨bb,rfl,KF15,n,hg15,hJb⟩
 have df:=KF15.size
 have sub15:∀ c∈n,c∈fp∨w.heap.size≤c:=Na (fun c hc=>Or.inl hc) hg15 (by omega)
 have aN:=Ke hg15 aG (by omega)
 have aO:=Ke hg15 aH (by omega)
 have aP:=Ke hg15 aJ (by omega)
 cases bb
 · have Jy15:Jx (0+1) n w3:=hJb
   refine qv rfl (Kd rfl)<|Qa<|Nb rfl<|Qq<|Xz ?_
   have KI24:Kp fp w w3:=(KI17.trans KF15 (fun c hc=>Or.inl hc))
   exact⟨_,_,rfl,Hj rfl,KI24,.inr ⟨_,_,sub15,(by rw[List.length_map];exact(List.getElem?_eq_some_iff.1 ae).1),Jy15⟩⟩
 have Jy15:J (0+1) n w3:=hJb
 refine qv rfl (Kd rfl)<|Qa<|Ty rfl<|qu<|qs 2 rfl ?_
 refine qe rfl (Xg (cs:=[.int .i64 0]) Qiw rfl) ?_
 rintro _ w4 ⟨b4,rfl,cI,aQ,G4⟩
 have dg:=G4.size
 have cJ:=aQ.lt
 have af:b4∉n:=fun h=>absurd (hJ.lt Jy15 _ h) (by omega)
 refine qe rfl (Zp (cs':=[.int .i64 1]) (Wp).siz rfl rfl rfl aQ rfl rfl) ?_
 rintro _ w5 ⟨bK,M5⟩
 have di:=M5.size
 refine Qa<|Xn ?_
 have bL:=(hJ.md (hJ.gr Jy15 G4) M5 af)
 have KI30:Kp fp w w5:=(((KI17.trans KF15 (fun c hc=>Or.inl hc)).gr G4).md M5 (Or.inr (by omega)))
 have bM:=(((Bx.kp bI KF15 aG).gr G4).md M5)
 have bN:=(((Bx.kp bJ KF15 aH).gr G4).md M5)
 have bO:=(((Bx.kp aM KF15 aJ).gr G4).md M5)
 refine Xge (α:=Nat × Int × Nat × Nat × List Nat × List (Int × Int)) ([5,6,7]++rg 14 34) (fun⟨n1,a2,bq1_5,kk,fpl,rl⟩=>[(5,.pointer (some ⟨bq1_5,0,none⟩))]) (fun⟨n1,a2,bq1_5,kk,fpl,rl⟩ ks wr=>(Qv (Qey p1 x1) n1 a2=some rl)∧Dr xs kk rl∧J kk fpl wr∧(∀ c∈fpl,c∈fp∨w.heap.size≤c)∧Kp fp w wr∧Bx wr bp1 120 (Xj.cs p1)∧Bx wr bp2 3 ([.int .i64 p2])∧Bx wr b1 170 [.func (.yield l) #[] #[]]∧bp1∉fpl∧bp2∉fpl∧b1∉fpl∧Bx wr bq1_5 149 ([.int .i64 a2])∧bq1_5∉fpl∧w.heap.size≤bq1_5∧bq1_5≠bp1∧bq1_5≠bp2∧bq1_5≠b1∧Kc w.heap.size ks fpl wr) (fun⟨n1,a2,bq1_5,kk,fpl,rl⟩=>n1) ⟨Xb,1,b4,(0+1),n,rr15⟩ [] rfl ?_ ?_ ?_
 · exact Ql
 · exact⟨hm,hd15,bL,sub15,KI30,bM,bN,bO,aN,aO,aP,bK,af,(by omega),(by omega),(by omega),(by omega),(Xcg w.heap.size n w5)⟩
 clear hm;rintro⟨n1,a2,bq1_5,ad,fpl1,rl1⟩ ks1 w6 ⟨hm,dl1,JLw6,sl1,KLw6,o,D,E,f,g,d,m,e,bP,bQ,bR,bS,MKw6⟩
 have dj:=KLw6.size
 have cK:=o.lt
 have cL:=D.lt
 have cM:=E.lt
 have cN:=m.lt
 have hb:=Kl hm;clear hm;obtain⟨n1,rfl,hm⟩:=hb
 generalize T:Qv (Qey p1 x1) n1=ag at hm
 unfold Qey at hm
 try dsimp only at hm
 refine Qe<|qs 3 rfl<|qv rfl (Qi (v:=.int .i64 a2) Wp rfl m rfl)<|qm rfl<|qv rfl (Kg (a:=a2) (b:=x1) rfl rfl)<|Qa ?_
 refine Kx hm rfl (fun c1 hm=>?_) (fun c1 hm=>?_)
 · refine Jl<|Xu<|Xu<|Jk ?_
   obtain⟨bT,ao,U⟩:=Kc.leave MKw6
   have ap:=Kc.stb hJ MKw6 JLw6 U
   have aq:=Kc.trans MKw6 KLw6 U
   have he:=Option.some.inj hm
   have hl:=Dr.last (c:=(fun(x:Int × Int)=>([.int .i64 x.1,.int .i64 x.2]:List Value))) dl1 he.symm
   refine⟨_,_,ao,Hj rfl,aq,.inl ⟨_,sl1,?_⟩⟩
   rw[←hl];exact ap
 refine qu<|Qe<|Xn<|Qe<|qs 3 rfl ?_
 refine qv rfl (Qh Ut rfl)<|qv rfl (Qi (v:=bv p1.kind) Zb rfl o rfl)<|qv rfl (Vt (p:=p1.kind) (q:=1#8) rfl rfl)<|Qa<|Zv hm rfl (fun c2 hm=>?_) (fun c2 hm=>?_)
 · refine Qe<|Qe<|dw [fpl1] [] (.leaf [(0,10),(1,10),(2,10),(3,0),(4,0),(5,0)]) ?_
   intro w7 G7 dk
   refine Zz ?_
   have aR:=(E.gr G7)
   refine qh 0 rfl rfl (Kp.refl fpl1 w7) (fun w hS=>Qi Ql6 rfl (Bx.kp aR hS d) rfl) ?_
   have aS:=(m.gr G7)
   refine qh 0 rfl rfl (Kp.refl fpl1 w7) (fun w hS=>Qi (v:=.int .i64 a2) Wp rfl (Bx.kp aS hS e) rfl)<|dn 0 rfl rfl (Kp.refl fpl1 w7) ?_
   obtain⟨x3,bU,hm⟩:=Qd hm
   refine qz [] rfl (eC Qfc rfl (Qew bU)) ⟨fun _=>Qf,trivial⟩ ?_
   rintro _ w8 ⟨rfl,G8⟩
   have bV:=(hJ.gr JLw6 G7)
   have dl:=G8.size
   refine kG G8 ?_
   have bW:=(hJ.gr bV G8)
   have Y1:=Gr.trans G7 G8
   have KI45:Kp fp w w8:=(KLw6.gr Y1)
   obtain⟨rr43,hm,he43⟩:=Aq hm
   have ah:=Dr.at dl1 he43
   have hd43:=Dr.next dl1 he43
   have bX:=(o.gr Y1)
   have bY:=(D.gr Y1)
   have bZ:=(aR.gr G8)
   have b0:=(aS.gr G8)
   refine Qy4 rfl rfl rfl (Bj rfl rfl (hY _ _ _ _ (Gu ah) bW KI45 sl1)) ?_
   rintro _ w9 ⟨bb,rfl,KF43,u,hg43,hJb⟩
   refine⟨fun S=>Kp.trans S KF43 (fun b hb=>Or.inl hb),?_⟩
   have dp:=KF43.size
   have sub43:∀ c∈u,c∈fp∨w.heap.size≤c:=Na sl1 hg43 (by omega)
   have MK51:=(MKw6.gr Y1)
   have MK43:=Kc.kp MK51 KF43 hg43
   have aT:=Ke hg43 f (by omega)
   have aU:=Ke hg43 g (by omega)
   have aV:=Ke hg43 d (by omega)
   have cO:=Ke hg43 e (by omega)
   cases bb
   · have Jy43:Jx (ad+1) u w9:=hJb
     refine qw rfl (Kd rfl)<|Qa<|Nb rfl<|Qq<|Xz<|Xz<|Jf ?_
     refine Xz<|Xz<|Jf ?_
     have KI56:Kp fp w w9:=(KI45.trans KF43 sl1)
     obtain⟨cP,aW,ai⟩:=Kc.leave MK43
     have aX:=Kc.stb hJx MK43 Jy43 ai
     have aY:=Kc.trans MK43 KI56 ai
     exact⟨_,_,aW,Hj rfl,aY,.inr ⟨_,_,sub43,(by rw[List.length_map];exact(List.getElem?_eq_some_iff.1 ah).1),aX⟩⟩
   have Jy43:J (ad+1) u w9:=hJb
   refine qw rfl (Kd rfl)<|Qa<|Ty rfl<|qu<|Jl<|Xu ?_
   refine Jk<|Xl<|Qe<|qs 1 rfl ?_
   have b2:=(Bx.kp b0 KF43 e)
   refine qv rfl (Qi (v:=.int .i64 a2) Wp rfl b2 rfl)<|Qa<|qg 2 rfl<|qe rfl (Xg (cs:=[.int .i64 0]) Qiw rfl) ?_
   rintro _ dq ⟨aZ,rfl,b3,V,F⟩
   have dr:=F.size
   have cQ:=V.lt
   have X:aZ∉u:=fun h=>absurd (hJ.lt Jy43 _ h) (by omega)
   refine qe rfl (Zp (cs':=[.int .i64 a2]) (Wp).siz rfl rfl rfl V rfl rfl) ?_
   rintro _ ds ⟨aj,G⟩
   have b5:=(hJ.gr Jy43 F)
   have MK63:=(MK43.gr F)
   have dt:=G.size
   refine Qa<|qg 4 rfl<|qv rfl (Qi (v:=.int .i64 a2) Wp rfl aj rfl)<|qm rfl ?_
   obtain⟨x4,b6,hm⟩:=Qd hm
   refine qe rfl (eC Qfc rfl (Qew b6)) ?_
   rintro _ du ⟨rfl,y⟩
   have b7:=(hJ.md b5 G X)
   have dv:=y.size
   have a0:=(aj.gr y)
   refine qe rfl (Zp (cs':=[.int .i64 x4]) (Wp).siz rfl rfl rfl a0 rfl rfl) ?_
   rintro _ b8 ⟨a1,H⟩
   have b9:=(hJ.gr b7 y)
   have MK69:=((MK63.md G V).gr y)
   have dy:=H.size
   refine Qk ?_
   have ca:=(hJ.md b9 H X)
   have KI72:Kp fp w b8:=(((((KI45.trans KF43 sl1).gr F).md G (Or.inr (by omega))).gr y).md H (Or.inr (by omega)))
   have cb:=(((((Bx.kp bX KF43 f).gr F).md G).gr y).md H)
   have cc:=(((((Bx.kp bY KF43 g).gr F).md G).gr y).md H)
   have cd:=(((((Bx.kp bZ KF43 d).gr F).md G).gr y).md H)
   have MK76:=(MK69.md H a0)
   subst T
   exact⟨⟨n1,x4,aZ,(ad+1),u,rr43⟩,ks1,rfl,Ql,⟨hm,hd43,ca,sub43,KI72,cb,cc,cd,aT,aU,aV,a1,X,(by omega),(by omega),(by omega),(by omega),MK76⟩,Nat.lt_succ_self _⟩
 refine qu<|qs 3 rfl<|qv rfl (Qi (v:=.int .i64 a2) Wp rfl m rfl)<|qm rfl ?_
 obtain⟨x5,ce,hm⟩:=Qd hm
 refine qe rfl (eC Qk4 rfl (Qjg ce)) ?_
 rintro _ ar ⟨P,Q,rfl,j,aE,k,aF,z⟩
 have dz:=z.size
 have cR:=j.lt
 have A:P∉fpl1:=fun h=>absurd (hJ.lt JLw6 _ h) (by omega)
 have cS:=k.lt
 have B:Q∉fpl1:=fun h=>absurd (hJ.lt JLw6 _ h) (by omega)
 refine Qa<|Xn ?_
 obtain⟨l6,cf,hm⟩:=Qd hm
 have cg:=(hJ.gr JLw6 z)
 have KI83:Kp fp w ar:=(KLw6.gr z)
 have a3:=(o.gr z)
 have a4:=(D.gr z)
 have a5:=(E.gr z)
 have a6:=(m.gr z)
 have MK88:=(MKw6.gr z)
 have MZ89:=MK88
 refine Rl (gf:=149) rfl Qjs (Qjf x5.1 x5.2 _ _ _ cf _ j k) (by intro x hx;obtain⟨a,_,rfl⟩:=List.mem_map.1 hx;rfl) rfl _ _ fpl1 (Sa (α:=Nat × List Nat × (List (Int × Int))) (fun⟨kk,fpl,rl⟩ rk=>(Js (Qez p1 a2) (Qex x1 a2 ag) (List.drop rk l6) ()=some rl)∧Dr xs kk rl∧(∀ c∈fpl,c∈fp∨w.heap.size≤c)∧(∀ c∈fpl,c∈fpl1∨ar.heap.size≤c)) (fun⟨kk,fpl,rl⟩=>fpl) (fun⟨kk,fpl,rl⟩ W=>J kk fpl W) (by rintro⟨kk,fpl,rl⟩ W h b hb;exact hJ.lt h b hb) (by rintro⟨kk,fpl,rl⟩ W W' h he hs;exact hJ.keep h he hs)) (fun c=>Qu5 (c=.ret) (Sa (α:=Nat × List Nat) (fun⟨kk,fpl⟩ rk=>kk≤xs.length∧(∀ c∈fpl,c∈fp∨w.heap.size≤c)∧(∀ c∈fpl,c∈fpl1∨ar.heap.size≤c)) (fun⟨kk,fpl⟩=>fpl) (fun⟨kk,fpl⟩ W=>Jx kk fpl W) (by rintro⟨kk,fpl⟩ W h b hb;exact hJx.lt h b hb) (by rintro⟨kk,fpl⟩ W W' h he hs;exact hJx.keep h he hs))) (by intro b hb;simp only[List.mem_cons,List.mem_append,Xt,List.not_mem_nil,or_false,false_or,not_or,ne_eq,List.nil_append,List.cons_append,true_and,and_true,false_and,and_false,not_true_eq_false,not_false_eq_true,or_true,true_or] at hb;rcases hb with rfl|rfl<;>first|exact⟨A,by omega⟩|exact⟨B,by omega⟩) ⟨(ad,fpl1,rl1),⟨hm,dl1,sl1,fun c hc=>Or.inl hc⟩,rfl,cg⟩ ?_ ?_ ?_
 · rintro l2 rk x fpr2 ch hl hx hIr r hF hln Jc
   clear hm
   obtain⟨e7,hxe,rfl⟩:=map_some hx
   obtain⟨⟨_,fpa,_⟩,⟨_,_,sa,sz⟩,ea,Ja⟩:=hIr
   replace ea:fpr2=fpa:=ea
   subst ea
   replace Ja:J _ fpr2 ch:=Ja
   have dA:=r.size
   have a7:=Ke hF f (by omega)
   have a8:=Ke hF g (by omega)
   have a9:=Ke hF d (by omega)
   have ba:=Ke hF e (by omega)
   have bc:=Ke hF A (by omega)
   have bd:=Ke hF B (by omega)
   have MKw15:=Kc.kp MZ89 r hF
   refine qg 1 rfl<|qm rfl<|Qk<|⟨rfl,(Gr.refl _),?_⟩
   rintro s t ⟨⟨kr2,fpb,rl2⟩,⟨hm,dr2,sr2,s0r2⟩,eb,Jr2⟩
   replace eb:fpr2=fpb:=eb
   subst eb
   replace Jr2:J kr2 fpr2 s:=Jr2
   have dB:=t.size
   replace hm:=Br hm hxe
   generalize hnx2:Js (Qez p1 a2) (Qex x1 a2 ag) (List.drop (rk+1) l6)=dC at hm
   unfold Qez at hm
   try dsimp only at hm
   refine Xn<|qs 3 rfl<|qm rfl ?_
   obtain⟨x8,ci,hm⟩:=Qd hm
   refine qe rfl (eC Qfb rfl (Qev ci)) ?_
   rintro _ dD ⟨rfl,R⟩
   have dE:=R.size
   refine qm rfl<|qd 12 rfl ?_
   have bf:=(((Bx.kp a3 r f).md t).gr R)
   refine qv rfl (Xa Ki rfl bf rfl) ?_
   have ak:=(((Bx.kp a6 r e).md t).gr R)
   refine qv rfl (Qi (v:=.int .i64 a2) Wp rfl ak rfl)<|qm rfl<|qv rfl (Zk (cs:=Qx.cs (Qx.mk a2 x8)) Qei rfl rfl) ?_
   obtain⟨x9,cj,hm⟩:=Qd hm
   refine qe rfl (eC Qq8 rfl (Qp7 cj)) ?_
   rintro _ ck ⟨rfl,I⟩
   have al:=(hJ.gr Jr2 R)
   have cT:=I.size
   refine Ra hm rfl (Qt rfl) (fun c3 hm=>?_) (fun c3 hm=>?_)
   · refine qn 6 rfl<|Qa ?_
     refine Ty rfl<|Jn<|Xh ?_
     have bg:=(hJ.gr al I)
     subst hnx2
     have Y2:=Gr.trans R I
     exact⟨((Kp.refl fpr2 s).gr Y2),fpr2,(fun c hc=>Or.inl hc:∀ c∈fpr2,c∈fpr2∨s.heap.size≤c),(kr2,fpr2,rl2),⟨hm,dr2,sr2,(Na s0r2 (fun c hc=>Or.inl hc:∀ c∈fpr2,c∈fpr2∨s.heap.size≤c) (by omega))⟩,rfl,bg⟩
   have Y3:=Gr.trans R I
   have bh:=(((Bx.kp a5 r d).md t).gr Y3)
   refine qv rfl (Qi Ql6 rfl bh rfl) ?_
   have bi:=(ak.gr I)
   refine qv rfl (Qi (v:=.int .i64 a2) Wp rfl bi rfl)<|qm rfl ?_
   have bj:=(hJ.gr al I)
   have KI107:Kp fp w ck:=(((KI83.trans r sl1).md t (Or.inr (by omega))).gr Y3)
   obtain⟨rr105,hm,he105⟩:=Aq hm
   have Y:=Dr.at dr2 he105
   have hd105:=Dr.next dr2 he105
   have cU:=(bf.gr I)
   have cV:=(((Bx.kp a4 r g).md t).gr Y3)
   have cW:=(((Bx.kp j r A).md t).gr Y3)
   have cX:=(((Bx.kp k r B).md t).gr Y3)
   refine qe rfl (Bj rfl rfl (hY _ _ _ _ (Gu Y) bj KI107 sr2)) ?_
   rintro _ bk ⟨bb,rfl,KF105,i,hg105,hJb⟩
   have cY:=KF105.size
   have sub105:∀ c∈i,c∈fp∨w.heap.size≤c:=Na sr2 hg105 (by omega)
   have subr105:=Na (fun c hc=>Or.inl hc:∀ c∈fpr2,c∈fpr2∨s.heap.size≤c) hg105 (by omega)
   have MK113:=((Kc.mdl MKw15 t MZ89 hl).gr Y3)
   have MK105:=Kc.kp MK113 KF105 hg105
   have cl:=Ke hg105 a7 (by omega)
   have cm:=Ke hg105 a8 (by omega)
   have cn:=Ke hg105 a9 (by omega)
   have co:=Ke hg105 ba (by omega)
   have cp:=Ke hg105 bc (by omega)
   have cq:=Ke hg105 bd (by omega)
   cases bb
   · have Jy105:Jx (kr2+1) i bk:=hJb
     refine qv rfl (Kd rfl)<|qm rfl<|Qa<|Nb rfl<|Qq<|Jf ?_
     exact⟨(((Kp.refl fpr2 s).gr Y3).trans KF105 (fun c hc=>Or.inl hc:∀ c∈fpr2,c∈fpr2∨s.heap.size≤c)),i,subr105,rfl,((kr2+1),i),⟨(List.getElem?_eq_some_iff.1 Y).1,sub105,(Na s0r2 subr105 (by omega))⟩,rfl,Jy105⟩
   have Jy105:J (kr2+1) i bk:=hJb
   refine qv rfl (Kd rfl)<|qm rfl<|Qa<|Ty rfl<|Jn<|Xh ?_
   subst hnx2
   exact⟨(((Kp.refl fpr2 s).gr Y3).trans KF105 (fun c hc=>Or.inl hc:∀ c∈fpr2,c∈fpr2∨s.heap.size≤c)),i,subr105,((kr2+1),i,rr105),⟨hm,hd105,sub105,(Na s0r2 subr105 (by omega))⟩,rfl,Jy105⟩
 · clear hm;rintro bl fpdw20 bm au Z bo ⟨⟨kd,fpe,rd⟩,⟨hm,dd,sd,s0d⟩,ed,Jd⟩ K
   replace ed:fpdw20=fpe:=ed
   subst ed
   replace Jd:J kd fpdw20 bm:=Jd
   have cZ:=K.size
   have cr:=Df.lt (w:=bm) Z
   have av:=Ke s0d f (by omega)
   have aw:=Ke s0d g (by omega)
   have ax:=Ke s0d d (by omega)
   have ct:=Ke s0d e (by omega)
   have cu:=Ke s0d A (by omega)
   have cv:=Ke s0d B (by omega)
   have MKw20:=Kc.cons (Kc.kp MZ89 K s0d) MZ89 au (by omega) Z bo
   replace hm:=Bs hm
   unfold Qex at hm
   try dsimp only at hm
   refine Xh<|Xh<|Xl<|Qe<|qs 1 rfl ?_
   have bp:=(Bx.kp a6 K e)
   refine qv rfl (Qi (v:=.int .i64 a2) Wp rfl bp rfl)<|Qa<|qg 2 rfl<|qe rfl (Xg (cs:=[.int .i64 0]) Qiw rfl) ?_
   rintro _ dF ⟨bq,rfl,cw,aa,L⟩
   have c0:=L.size
   have cx:=aa.lt
   have M:bq∉fpdw20:=fun h=>absurd (hJ.lt Jd _ h) (by omega)
   refine qe rfl (Zp (cs':=[.int .i64 a2]) (Wp).siz rfl rfl rfl aa rfl rfl) ?_
   rintro _ dG ⟨am,N⟩
   have br:=(hJ.gr Jd L)
   have MK137:=(MKw20.gr L)
   have c5:=N.size
   refine Qa<|qg 4 rfl<|qv rfl (Qi (v:=.int .i64 a2) Wp rfl am rfl)<|qm rfl ?_
   obtain⟨bs,bu,hm⟩:=Qd hm
   refine qe rfl (eC Qfc rfl (Qew bu)) ?_
   rintro _ dH ⟨rfl,C⟩
   have bw:=(hJ.md br N M)
   have c6:=C.size
   have an:=(am.gr C)
   refine qe rfl (Zp (cs':=[.int .i64 bs]) (Wp).siz rfl rfl rfl an rfl rfl) ?_
   rintro _ cy ⟨bx,O⟩
   have bz:=(hJ.gr bw C)
   have MK143:=((MK137.md N aa).gr C)
   have c7:=O.size
   refine Qk ?_
   have bA:=(hJ.md bz O M)
   have KI146:Kp fp w cy:=(((((KI83.trans K sl1).gr L).md N (Or.inr (by omega))).gr C).md O (Or.inr (by omega)))
   have bB:=(((((Bx.kp a3 K f).gr L).md N).gr C).md O)
   have bC:=(((((Bx.kp a4 K g).gr L).md N).gr C).md O)
   have bD:=(((((Bx.kp a5 K d).gr L).md N).gr C).md O)
   have MK150:=(MK143.md O an)
   subst T
   exact⟨⟨n1,bs,bq,kd,fpdw20,rd⟩,(bl::ks1),rfl,Ql,⟨hm,dd,bA,sd,KI146,bB,bC,bD,av,aw,ax,bx,M,(by omega),(by omega),(by omega),(by omega),MK150⟩,Nat.lt_succ_self _⟩
 clear hm;rintro c8 c rk fpdw25 ay az ab bE hle ⟨rfl,⟨kd,fpe⟩,⟨led,sd,s0d⟩,ed,Jd⟩ aA
 replace ed:fpdw25=fpe:=ed
 subst ed
 replace Jd:Jx kd fpdw25 ay:=Jd
 have c9:=aA.size
 have cz:=Df.lt (w:=ay) ab
 have cA:=Ke s0d f (by omega)
 have cB:=Ke s0d g (by omega)
 have cC:=Ke s0d d (by omega)
 have cD:=Ke s0d e (by omega)
 have cE:=Ke s0d A (by omega)
 have cF:=Ke s0d B (by omega)
 have MKw25:=Kc.cons (Kc.kp MZ89 aA s0d) MZ89 az (by omega) ab bE
 refine Qq<|Jf<|Jf<|Xz<|Xz<|Jf ?_
 have KI159:Kp fp w ay:=(KI83.trans aA sl1)
 obtain⟨cG,aB,ac⟩:=Kc.leave MKw25
 have aC:=Kc.stb hJx MKw25 Jd ac
 have aD:=Kc.trans MKw25 KI159 ac
 exact⟨_,_,aB,Hj rfl,aD,.inr ⟨_,_,sd,(by rw[List.length_map];exact led),aC⟩⟩
theorem Qxp {p0 r}(hm:Qcg p0=some r){w:World}:
 Calls Tryz.prog 32 [.agg (Qj.cs p0).toArray].toArray w fun e w'=>∃ v,e=.returned v∧(v=.tuple [.int .i64 r.1,.int .i64 r.2].toArray∧Gr w w'):=by
 unfold Qcg at hm
 refine Xi 22 Tryz.func32 rfl rfl rfl<|qs 3 rfl<|qe rfl (Xo (cs:=Qj.cs p0) rfl rfl) ?_
 rintro _ w1 ⟨b1,rfl,R,o,G1⟩
 have z1:=G1.size
 have aa:=o.lt
 refine qn 2 rfl<|qd 8 rfl<|qv rfl (Xa Zq rfl o rfl) ?_
 obtain⟨x1,I,hm⟩:=Qd hm
 refine qe rfl (eC Qf9 rfl (Qes I (Qg.rd (Zi _ 0 137 2)))) ?_
 rintro _ w2 ⟨rfl,G2⟩
 have z3:=G2.size
 refine qn 3 rfl<|qe rfl (Xg (cs:=Xj.cs (Xj.mk 0#8 0 0)) Sc rfl) ?_
 rintro _ w3 ⟨b3,rfl,S,p,G3⟩
 have z4:=G3.size
 have ab:=p.lt
 refine qe rfl (Xf Ki rfl rfl rfl p rfl rfl) ?_
 rintro _ w4 ⟨J,M4⟩
 have z6:=M4.size
 refine qm rfl<|Qa<|Qe<|qs 2 rfl<|qm rfl<|qv rfl (Kg (a:=x1.2) (b:=0) rfl rfl) ?_
 refine Qa<|Zv hm rfl (fun c1 hm=>?_) (fun c1 hm=>?_)
 · refine qs 3 rfl<|qn 3 rfl<|Qa<|Qq ?_
   refine Xz ?_
   have X7:=(((((Gr.refl w).trans G1).trans G2).trans G3).md M4)
   cases hm
   exact⟨_,_,rfl,Za rfl (Qn rfl) (Qn rfl),rfl,X7⟩
 refine qu<|qs 2 rfl<|qe rfl (Xg (cs:=[.int .i64 0]) Sd rfl) ?_
 rintro _ w5 ⟨b5,rfl,T,q,G5⟩
 have z8:=G5.size
 have ac:=q.lt
 refine qe rfl (Zp (cs':=[.int .i64 0]) (Qm).siz rfl rfl rfl q rfl rfl) ?_
 rintro _ w6 ⟨K,M6⟩
 have ad:=M6.size
 refine Qa<|Qe<|qs 2 rfl ?_
 have s:=((J.gr G5).md M6)
 refine qv rfl (Xa Ki rfl s rfl) ?_
 obtain⟨x2,L,hm⟩:=Qd hm
 refine qe rfl (eC Qq1 rfl (Qp4 L)) ?_
 rintro _ w7 ⟨t,u,rfl,d,y,f,z,G7⟩
 have ae:=G7.size
 have U:=d.lt
 have V:=f.lt
 refine Qa<|Xn ?_
 obtain⟨l3,M,hm⟩:=Qd hm
 have N:=((((((((Gr.refl w).trans G1).trans G2).trans G3).md M4).trans G5).md M6).trans G7)
 have af:=((((((o.gr G2).gr G3).md M4).gr G5).md M6).gr G7)
 have ag:=(s.gr G7)
 have O:=(K.gr G7)
 refine Rl (gf:=97) rfl Qq9 (Qp3 x2.1 x2.2 _ _ _ M _ d f) (by intro x hx;obtain⟨a,_,rfl⟩:=List.mem_map.1 hx;rfl) rfl _ (fun _ _ _ _=>False) ([b5]) (Sa (α:=Int) (fun a5 rk=>Js Qer Qeq (List.drop rk l3) a5=some r) (fun a5=>([b5])) (fun a5 W=>Bx W b5 3 ([.int .i64 a5])∧True) (by rintro a5 W ⟨F0,_⟩ b hb;have q0:=F0.lt;replace hb:b∈([b5]):=hb;simp only[List.mem_cons,List.mem_append,Xt,List.not_mem_nil,or_false,false_or,not_or,ne_eq,List.nil_append,List.cons_append,true_and,and_true,false_and,and_false,not_true_eq_false,not_false_eq_true,or_true,true_or] at hb;omega) (by rintro a5 W W' ⟨F0,_⟩ E hs;replace hs:∀ b∈([b5]),W'.heap[b]? = W.heap[b]? := hs;exact⟨(hs _ (by simp)).trans F0,trivial⟩)) (fun _=>Al) (by intro b hb;simp only[List.mem_cons,List.mem_append,Xt,List.not_mem_nil,or_false,false_or,not_or,ne_eq,List.nil_append,List.cons_append,true_and,and_true,false_and,and_false,not_true_eq_false,not_false_eq_true,or_true,true_or] at hb ⊢;omega) ⟨0,hm,rfl,O,trivial⟩ ?_ ?_ ?_
 · rintro l rk x fp w8 hl hx _ K8 hF hln Jc
   clear hm
   obtain⟨⟨e6,e7⟩,hxe,rfl⟩:=map_some hx
   have ah:Kz [(1,b5)] w7 w8:=Ta K8 (by intro k hk;simp only[Zh,and_true,List.mem_cons,List.mem_append,Xt,List.not_mem_nil,or_false,false_or,not_or,ne_eq,List.nil_append,List.cons_append,true_and,and_true,false_and,and_false,not_true_eq_false,not_false_eq_true,or_true,true_or] at hk ⊢;omega)
   have ai:=K8.size
   refine Jn<|⟨rfl,(Gr.refl _),?_⟩
   rintro w9 M9 ⟨a5,hm,rfl,g,-⟩
   have aj:=M9.size
   have X:=g.lt
   replace hm:=Br hm hxe
   generalize hnx1:Js Qer Qeq (List.drop (rk+1) l3)=ak at hm
   unfold Qer at hm
   try dsimp only at hm
   refine Xn<|qg 3 rfl<|qv rfl (Qi (v:=.int .i64 a5) Qm rfl g rfl)<|qv rfl (Zd (k:=.i64) (a:=a5) (b:=1) rfl rfl)<|qe rfl (Zp (cs':=[.int .i64 (Qc (a5+1))]) (Qm).siz rfl rfl rfl g rfl rfl) ?_
   rintro _ A ⟨B,C⟩
   have al:=C.size
   refine Qk<|Xh ?_
   have K_23:Kz [(1,b5)] w9 A:=(Kz.md (Kz.refl _ _) C)
   have Kq23:Kp ([b5]) w9 A:=Lo K_23 (by intro k hk;simp only[Zh,and_true,List.mem_cons,List.mem_append,Xt,List.not_mem_nil,or_false,false_or,not_or,ne_eq,List.nil_append,List.cons_append,true_and,and_true,false_and,and_false,not_true_eq_false,not_false_eq_true,or_true,true_or] at hk ⊢;omega)
   subst hnx1
   exact⟨Kq23,([b5]),(by intro c hc;simp only[List.mem_cons,List.mem_append,Xt,List.not_mem_nil,or_false,false_or,not_or,ne_eq,List.nil_append,List.cons_append,true_and,and_true,false_and,and_false,not_true_eq_false,not_false_eq_true,or_true,true_or] at hc ⊢;omega),⟨Qc (a5+1),hm,rfl,B,trivial⟩⟩
 · clear hm;rintro j fp n P m D ⟨a5,hm,rfl,i,-⟩ F
   replace hm:=Bs hm
   have G:Kz [(1,b5)] w7 n:=Ta F (by intro k hk;simp only[Zh,and_true,List.mem_cons,List.mem_append,Xt,List.not_mem_nil,or_false,false_or,not_or,ne_eq,List.nil_append,List.cons_append,true_and,and_true,false_and,and_false,not_true_eq_false,not_false_eq_true,or_true,true_or] at hk ⊢;omega)
   have am:=F.size
   have Y:=Df.lt (w:=n) m
   simp only[List.mem_cons,List.mem_append,Xt,List.not_mem_nil,or_false,false_or,not_or,ne_eq,List.nil_append,List.cons_append,true_and,and_true,false_and,and_false,not_true_eq_false,not_false_eq_true,or_true,true_or,not_and] at D
   have Z:=i.lt
   unfold Qeq at hm
   try dsimp only at hm
   refine Xh<|Xl<|qs 3 rfl<|qv rfl (Qi (v:=.int .i64 a5) Qm rfl i rfl)<|qn 2 rfl ?_
   refine Qa<|Qq ?_
   have DL27:=m
   have H:=Md.put (w:=n) j (.deferred none)
   have zL27:=H.size
   have Q:Gr w (n.putObj j (.deferred none)):=((N.kz G).md H)
   cases hm
   refine⟨_,_,⟨j,rfl,DL27,rfl⟩,Za rfl (Qn rfl) (Qn rfl),?_⟩
   exact⟨rfl,Q⟩
 rintro _ _ _ _ _ _ _ _ _ h _
 exact h.elim
theorem Qlf {p0 p1 r}(hm:Nu p0 p1=some r){w:World}:
 Calls Tryz.prog 9 [.agg (Zs.cs p0).toArray,bv p1].toArray w fun e w'=>∃ v,e=.returned v∧(∃ ur0_7 zr0_7 gr0_7,v=.tuple [.agg (Xs.cs r.1 ur0_7).toArray,.int .i64 r.2].toArray∧Qg w' zr0_7 gr0_7 3 1 ur0_7 (r.1.Witness.map ic)∧Xd (zr0_7=0∨w.heap.size≤gr0_7)∧Gr w w'):=by
 unfold Nu at hm
 refine Xi 112 Tryz.func9 rfl rfl rfl<|qs 3 rfl<|qe rfl (Xo (cs:=Zs.cs p0) rfl rfl) ?_
 rintro _ w1 ⟨b1,rfl,bK,az,G1⟩
 have z1:=G1.size
 have bY:=az.lt
 refine qe rfl (Xg (cs:=Xs.cs (Xs.mk 0#8 false 0 0 0 0 0 []) (.slice none 0 0)) Cz rfl) ?_
 rintro _ w2 ⟨b2,rfl,bL,K,G2⟩
 have z3:=G2.size
 have bZ:=K.lt
 refine qm rfl<|Qa<|Qe<|qs 3 rfl ?_
 have B5:=(az.gr G2)
 refine qv rfl (Xa Ib rfl B5 rfl) ?_
 obtain⟨x1,a1,hm⟩:=Qd hm
 refine qe rfl (eC Qyy rfl (Xdx a1)) ?_
 rintro _ w3 ⟨rfl,G3⟩
 have z6:=G3.size
 refine qm rfl<|qd 2 rfl<|qm rfl<|qv rfl (Kg (a:=x1) (b:=0) rfl rfl)<|Qa ?_
 refine Zv hm rfl (fun c1 hm=>?_) (fun c1 hm=>?_)
 · refine qs 4 rfl<|qv rfl (Zk (cs:=Xs.cs (Xs.mk 0#8 false 0 0 0 0 0 []) (.slice none 0 0)) Qej rfl rfl)<|qm rfl ?_
   have B7:=(K.gr G3)
   refine qe rfl (Xf Wc rfl rfl (Xs.cs_ones _ _ rfl) B7 rfl rfl) ?_
   rintro _ w4 ⟨a6,M4⟩
   have z8:=M4.size
   refine qm rfl<|qb ?_
   have X9:=(((((Gr.refl w).trans G1).trans G2).trans G3).md M4)
   cases hm
   exact⟨_,_,rfl,Za rfl (Zf Wc rfl a6 rfl) (Qn rfl),(.slice none 0 0),0,0,rfl,(Zi _ 0 3 1),⟨.inl rfl⟩,X9⟩
 refine qu<|qs 4 rfl<|qm rfl<|qv rfl (Zk (cs:=Xs.cs (Xs.mk p1 false 0 0 0 0 0 []) (.slice none 0 0)) Qej rfl rfl)<|qe rfl (Xg (cs:=Xs.cs (Xs.mk 0#8 false 0 0 0 0 0 []) (.slice none 0 0)) Cz rfl) ?_
 rintro _ w5 ⟨b5,rfl,bM,aA,G5⟩
 have b0:=G5.size
 have bN:=aA.lt
 refine qe rfl (Xf Wc rfl rfl (Xs.cs_ones _ _ rfl) aA rfl rfl) ?_
 rintro _ w6 ⟨ac,M6⟩
 have b3:=M6.size
 refine Qa ?_
 have ad:=((((((Gr.refl w).trans G1).trans G2).trans G3).trans G5).md M6)
 refine qj (β:=Int × Int × Int × List Int × Value × Nat × Nat) ([5]++rg 8 6++rg 22 56) (fun⟨a2,a3,a4,a5,vy6,zy6,gy6⟩=>[(5,.int .i64 0)]) (fun⟨a2,a3,a4,a5,vy6,zy6,gy6⟩ wr=>(Qb2 p0 p1 a2 a3 a4 a5=some r)∧Qg wr zy6 gy6 3 1 vy6 (a5.map ic)∧Xd (zy6=0∨w6.heap.size≤gy6)∧Bx wr b5 32 (Xs.cs (Xs.mk p1 false a2 a3 0 a4 0 a5) vy6)∧Kz [(1,b5)] w6 wr) ?_ ?_
 · refine Xn<|qj (β:=Bool) (rg 50 7) (fun a8=>[(50,.bool a8)]) (fun a8 wr=>(Qdc p0 p1 a8=some r)∧Kz [] w6 wr) ?_ ?_
   · refine qg 7 rfl<|qm rfl<|qv rfl (Qbp (p:=p1) (q:=1#8) rfl rfl)<|Ji hm rfl (Qt rfl) (fun c5 hm=>?_) (fun c5 hm=>?_)
     · refine qn 4 rfl<|Qk ?_
       exact⟨rfl,true,Ql,hm,Xe⟩
     refine qm rfl<|qv rfl (Qv9 (p:=p1) (q:=4#8) rfl rfl)<|qn 2 rfl<|Qk ?_
     exact⟨rfl,(decide (4#8<p1)),Ql,hm,Xe⟩
   clear hm;rintro a8 b4 ⟨hm,g⟩
   have b6:=g.size
   unfold Qdc at hm
   refine Jo hm rfl (fun c2 hm=>?_) (fun c2 hm=>?_)
   · refine qs 3 rfl<|qv rfl (Zk (cs:=Xs.cs (Xs.mk 0#8 false 0 0 0 0 0 []) (.slice none 0 0)) Qej rfl rfl) ?_
     have Y1:=Gr.trans G3 G5
     have a7:=(((K.gr Y1).md M6).kz g)
     refine qe rfl (Xf Wc rfl rfl (Xs.cs_ones _ _ rfl) a7 rfl rfl) ?_
     rintro _ b7 ⟨aB,aC⟩
     have b8:=aC.size
     refine qm rfl<|Qa<|Qq<|Jf<|Xz ?_
     have a9:=((ad.kz g).md aC)
     cases hm
     exact⟨_,_,rfl,Za rfl (Zf Wc rfl aB rfl) (Qn rfl),(.slice none 0 0),0,0,rfl,(Zi _ 0 3 1),⟨.inl rfl⟩,a9⟩
   refine qs 3 rfl<|qm rfl<|qv rfl (Vt (p:=p1) (q:=4#8) rfl rfl)<|qm rfl<|Qa<|Zv hm rfl (fun c3 hm=>?_) (fun c3 hm=>?_)
   · refine qs 11 rfl<|qm rfl<|qv rfl (Qh Qai rfl) ?_
     have Y2:=Gr.trans G3 G5
     have ae:=(((B5.gr Y2).md M6).kz g)
     refine qv rfl (Qi (v:=.int .i64 p0.Depth) Qm rfl ae rfl)<|qv rfl (Qh Qcw rfl)<|qv rfl (Qi (v:=.int .i64 p0.Revoked) Qm rfl ae rfl)<|qv rfl (Qim rfl rfl)<|qv rfl (Qh Qqt rfl)<|qv rfl (Vk (vs:=Jb.cs p0.Group) Ml rfl ae rfl rfl)<|qv rfl (Zk (cs:=Qj.cs (Qj.mk p1 p0.Depth (Yf p0.Revoked 1) p0.Group)) Qc5 rfl (Vz rfl rfl rfl (Vz rfl rfl rfl (Vz rfl rfl rfl (Vz rfl rfl rfl rfl))))) ?_
     refine qe rfl (Xg (cs:=Qj.cs (Qj.mk 0#8 0 0 (Jb.mk 0#64 0#64 0#64))) Ar rfl) ?_
     rintro _ b9 ⟨ca,rfl,ba,T,F⟩
     have cb:=F.size
     have bO:=T.lt
     refine qe rfl (Xf Zq rfl rfl rfl T rfl rfl) ?_
     rintro _ cc ⟨U,G⟩
     have cd:=G.size
     refine Qa<|Qe<|qs 3 rfl<|qv rfl (Xa Zq rfl U rfl) ?_
     obtain⟨x9,bb,hm⟩:=Qd hm
     refine qe rfl (eC Qf4 rfl (Qhk bb)) ?_
     rintro _ ce ⟨rfl,E⟩
     have cf:=E.size
     refine qv rfl (Kg (a:=x9) (b:=0) rfl rfl)<|Qa<|Zv hm rfl (fun c4 hm=>?_) (fun c4 hm=>?_)
     · refine qs 3 rfl ?_
       have bc:=((((ac.kz g).gr F).md G).gr E)
       refine qv rfl (Xa Wc rfl bc rfl) ?_
       have bd:=((((((K.gr Y2).md M6).kz g).gr F).md G).gr E)
       refine qe rfl (Xf Wc rfl rfl (Xs.cs_ones _ _ rfl) bd rfl rfl) ?_
       rintro _ cg ⟨aD,aE⟩
       have ch:=aE.size
       refine qm rfl<|qb<|Jf<|Xz ?_
       have bf:=(((((ad.kz g).trans F).md G).trans E).md aE)
       cases hm
       exact⟨_,_,rfl,Za rfl (Zf Wc rfl aD rfl) (Qn rfl),(.slice none 0 0),0,0,rfl,(Zi _ 0 3 1),⟨.inl rfl⟩,bf⟩
     refine qu<|qg 6 rfl<|qv rfl (Qh Bo rfl) ?_
     have bg:=(U.gr E)
     refine qv rfl (Qi (v:=.int .i64 (Yf p0.Revoked 1)) Qm rfl bg rfl)<|qv rfl (Qh Qfm rfl) ?_
     have bh:=((((ac.kz g).gr F).md G).gr E)
     refine qe rfl (Zp (cs':=Xs.cs (Xs.mk p1 false 0 (Yf p0.Revoked 1) 0 0 0 []) (.slice none 0 0)) (Qm).siz rfl rfl rfl bh rfl rfl) ?_
     rintro _ ci ⟨aF,aG⟩
     have cj:=aG.size
     refine qv rfl (Qh Uw rfl)<|qe rfl (Zp (cs':=Xs.cs (Xs.mk p1 false 0 (Yf p0.Revoked 1) 0 8 0 []) (.slice none 0 0)) (Qm).siz rfl rfl rfl aF rfl rfl) ?_
     rintro _ ck ⟨aH,aI⟩
     have cl:=aI.size
     refine Qk<|Xh ?_
     exact⟨rfl,⟨0,Yf p0.Revoked 1,8,[],(.slice none 0 0),0,0⟩,Ql,hm,(Zi _ 0 3 1),⟨(.inl rfl)⟩,aH,((((((Kz.kz (Kz.refl _ _) g).gr F).md G).gr E).md aG).md aI)⟩
   refine qs 6 rfl<|qm rfl<|qv rfl (Qh Qai rfl) ?_
   have Y3:=Gr.trans G3 G5
   have aJ:=(((B5.gr Y3).md M6).kz g)
   refine qv rfl (Qi (v:=.int .i64 p0.Depth) Qm rfl aJ rfl)<|qv rfl (Zk (cs:=Qj.cs (Qj.mk p1 p0.Depth 0 (Jb.mk 0#64 0#64 0#64))) Qc5 rfl rfl)<|qe rfl (Xg (cs:=Qj.cs (Qj.mk 0#8 0 0 (Jb.mk 0#64 0#64 0#64))) Ar rfl) ?_
   rintro _ cm ⟨cn,rfl,bi,V,P⟩
   have co:=P.size
   have bP:=V.lt
   refine qe rfl (Xf Zq rfl rfl rfl V rfl rfl) ?_
   rintro _ cp ⟨W,Q⟩
   have cq:=Q.size
   refine qd 3 rfl<|qv rfl (Xa Zq rfl W rfl) ?_
   obtain⟨bj,aK,hm⟩:=Qd hm
   refine qe rfl (eC Qju rfl (Qlk aK)) ?_
   rintro _ cr ⟨ax,af,ag,ah,ai,aj,ak,al,am,an,X,Y,Z,rfl,t,ay,h,i,ao,j,l,ap,m,n,aq,d,f,aa,bk,bl,bm,bo,bp,bq,L⟩
   have ct:=L.size
   have bQ:=h.lth
   have bR:=j.lth
   have bS:=m.lth
   have bT:=d.lth
   have bU:=t.lt
   refine qm rfl<|qd 7 rfl ?_
   have aL:=(W.gr L)
   refine qv rfl (Xa Zq rfl aL rfl) ?_
   obtain⟨R,aM,hm⟩:=Qd hm
   refine qe rfl (eC Qyz rfl (Qxp aM)) ?_
   rintro _ cu ⟨rfl,s⟩
   have cv:=s.size
   refine qn 5 rfl<|Qa<|Qe ?_
   refine qg 1 rfl<|qm rfl<|qd 10 rfl<|qm rfl<|qv rfl (Qh Qcw rfl) ?_
   have br:=((((aJ.gr P).md Q).gr L).gr s)
   refine qv rfl (Qi (v:=.int .i64 p0.Revoked) Qm rfl br rfl) ?_
   have aN:=(t.gr s)
   have aO:=(h.gr s)
   have aP:=(j.gr s)
   have aQ:=(m.gr s)
   have aR:=(d.gr s)
   obtain⟨M,aS,hm⟩:=Qd hm
   refine qe rfl (eC Qjv rfl (Qlt aS aN (Qg.rd aO) (Qg.rd aP) (Qg.rd aQ) (Qg.rd aR))) ?_
   rintro _ cw ⟨rfl,z⟩
   have cx:=z.size
   refine qn 3 rfl<|qv rfl (Qh Qfl rfl) ?_
   have bs:=((((((ac.kz g).gr P).md Q).gr L).gr s).gr z)
   refine qe rfl (Zp (cs':=Xs.cs (Xs.mk p1 false M.1 0 0 0 0 []) (.slice none 0 0)) (Qm).siz rfl rfl rfl bs rfl rfl) ?_
   rintro _ cy ⟨aT,C⟩
   have cz:=C.size
   refine qm rfl<|qd 4 rfl<|qm rfl<|qv rfl (Hw (k:=.i64) (a:=16) (b:=R.1) rfl rfl)<|qv rfl (Qh Uw rfl) ?_
   refine qe rfl (Zp (cs':=Xs.cs (Xs.mk p1 false M.1 0 0 (Qc (16*R.1)) 0 []) (.slice none 0 0)) (Qm).siz rfl rfl rfl aT rfl rfl) ?_
   rintro _ cA ⟨aU,D⟩
   have cB:=D.size
   refine Qa<|qg 7 rfl<|qm rfl<|qv rfl (Qh Wo rfl) ?_
   have bu:=((((aL.gr s).gr z).md C).md D)
   refine qv rfl (Qi (v:=.int .i64 p0.Depth) Qm rfl bu rfl)<|qm rfl ?_
   have bw:=(((aN.gr z).md C).md D)
   have bx:=(((aO.gr z).md C (Qr i)).md D (Qr i))
   have bz:=(((aP.gr z).md C (Qr l)).md D (Qr l))
   have bA:=(((aQ.gr z).md C (Qr n)).md D (Qr n))
   have bB:=(((aR.gr z).md C (Qr f)).md D (Qr f))
   obtain⟨aV,aW,hm⟩:=Qd hm
   refine qe rfl (eC Qf5 rfl (Qsy bj ([]:List Int) 1 0 p0.Depth M.2 _ _ _ _ _ _ _ _ _ _ _ _ _ _ _ _ _ (.slice none 0 0) 0 0 _ aW _ bw (Qg.rd bx) (Qg.rd bz) (Qg.rd bA) (Qg.rd bB) (Zi _ 0 3 1) ⟨Qf⟩ ⟨Qf⟩ ⟨Qf⟩ ⟨Qf⟩ ⟨Qf⟩)) ?_
   rintro u cC ⟨_,H,I,rfl,c,y,ar⟩
   have cD:=ar.size
   have bV:=c.lth
   refine qv rfl (Qh Qfn rfl) ?_
   have bC:=(aU.kz ar)
   refine qe rfl (Zp (cs':=Xs.cs (Xs.mk p1 false M.1 0 0 (Qc (16*R.1)) 0 aV) u) (Vr).siz rfl rfl (Qg.oneB c) bC rfl rfl) ?_
   rintro _ bD ⟨aX,au⟩
   have cE:=au.size
   refine Qk<|Xh ?_
   have K_78:Kz [(1,b5)] w6 bD:=((((((((((Kz.kz (Kz.refl _ _) g).gr P).md Q).gr L).gr s).gr z).md C).md D).kz ar).md au)
   have bE:=(c.md au (Qo y (.inl rfl)))
   exact⟨rfl,⟨M.1,0,Qc (16*R.1),aV,u,H,I⟩,Ql,hm,bE,⟨(Qp (A:=(fun x=>w6.heap.size≤x)) y (.inl rfl))⟩,aX,K_78⟩
 clear hm;rintro⟨a2,a3,a4,a5,vy6,zy6,gy6⟩ w7 ⟨hm,N,o,B,K7⟩
 have cF:=K7.size
 have bW:=N.lth
 have bX:=B.lt
 unfold Qb2 at hm
 refine qs 10 rfl<|qv rfl (Qh Qfl rfl)<|qv rfl (Qi (v:=.int .i64 a2) Qm rfl B rfl)<|qv rfl (Hw (k:=.i64) (a:=18) (b:=a2) rfl rfl)<|qv rfl (Zd (k:=.i64) (a:=67) (b:=Qc (18*a2)) rfl rfl)<|qv rfl (Qh Qfm rfl) ?_
 refine qv rfl (Qi (v:=.int .i64 a3) Qm rfl B rfl)<|qv rfl (Hw (k:=.i64) (a:=16) (b:=a3) rfl rfl)<|qv rfl (Zd (k:=.i64) (a:=Qc (67+(Qc (18*a2)))) (b:=Qc (16*a3)) rfl rfl)<|qv rfl (Qh Uv rfl)<|qe rfl (Zp (cs':=Xs.cs (Xs.mk p1 false a2 a3 (Qc ((Qc (67+(Qc (18*a2))))+(Qc (16*a3)))) a4 0 a5) vy6) (Qm).siz rfl rfl rfl B rfl rfl) ?_
 rintro _ w8 ⟨bF,M8⟩
 have cG:=M8.size
 refine Qa<|Qe<|dw [([b5]),([])] [(18,[1])] (.leaf [(0,10),(1,10),(2,10),(3,10),(4,10),(5,10),(6,11),(7,10),(8,10),(9,10),(10,10),(11,11),(12,10),(13,10),(14,10),(15,10),(16,10),(17,10),(18,0)]) ?_
 intro w9 G9 cH
 refine Zz<|dh 0 rfl rfl (fun w hS=>Qh Qqq rfl) ?_
 have Y4:=Gr.trans G3 G5
 have O:=(((((B5.gr Y4).md M6).kz K7).md M8).gr G9)
 refine dh 0 rfl rfl (fun w hS=>Qi (v:=.int .i64 p0.Headers) Qm rfl (Bx.kp O hS) rfl)<|dh 0 rfl rfl (fun w hS=>Qh Qqr rfl)<|dh 0 rfl rfl (fun w hS=>Qi (v:=.int .i64 p0.HeaderPrice) Qm rfl (Bx.kp O hS) rfl)<|dh 0 rfl rfl (fun w hS=>Hw (k:=.i64) (a:=p0.Headers) (b:=p0.HeaderPrice) rfl rfl)<|dh 0 rfl rfl (fun w hS=>Qh Uv rfl) ?_
 have av:=(bF.gr G9)
 refine dh 1 rfl rfl (fun w hS=>Qi (v:=.int .i64 (Qc ((Qc (67+(Qc (18*a2))))+(Qc (16*a3))))) Qm rfl (Bx.kp av hS) rfl)<|dh 0 rfl rfl (fun w hS=>Hw (k:=.i64) (a:=Qc (p0.Headers*p0.HeaderPrice)) (b:=Qc ((Qc (67+(Qc (18*a2))))+(Qc (16*a3)))) rfl rfl)<|dh 0 rfl rfl (fun w hS=>Qh Qqs rfl)<|dh 0 rfl rfl (fun w hS=>Qi (v:=.int .i64 p0.StoragePrice) Qm rfl (Bx.kp O hS) rfl)<|dh 0 rfl rfl (fun w hS=>Qh Uw rfl)<|dh 1 rfl rfl (fun w hS=>Qi (v:=.int .i64 a4) Qm rfl (Bx.kp av hS) rfl)<|dh 0 rfl rfl (fun w hS=>Hw (k:=.i64) (a:=p0.StoragePrice) (b:=a4) rfl rfl) ?_
 refine dh 0 rfl rfl (fun w hS=>Qh Qai rfl)<|dh 0 rfl rfl (fun w hS=>Qi (v:=.int .i64 p0.Depth) Qm rfl (Bx.kp O hS) rfl) ?_
 obtain⟨nn7,hnn7,hm⟩:=Qd hm
 refine dh 0 rfl rfl (fun w hS=>Tf (a:=Qc (p0.StoragePrice*a4)) (b:=p0.Depth) rfl rfl hnn7)<|dh 0 rfl rfl (fun w hS=>Zd (k:=.i64) (a:=Qc ((Qc (p0.Headers*p0.HeaderPrice))*(Qc ((Qc (67+(Qc (18*a2))))+(Qc (16*a3)))))) (b:=Xw (Qc (p0.StoragePrice*a4)) nn7) rfl rfl)<|dh 0 rfl rfl (fun w hS=>Qh Qcx rfl)<|qz [(1,b5)] rfl (Zp (cs':=Xs.cs (Xs.mk p1 false a2 a3 (Qc ((Qc (67+(Qc (18*a2))))+(Qc (16*a3)))) a4 (Qc ((Qc ((Qc (p0.Headers*p0.HeaderPrice))*(Qc ((Qc (67+(Qc (18*a2))))+(Qc (16*a3))))))+(Xw (Qc (p0.StoragePrice*a4)) nn7))) a5) vy6) (Qm).siz rfl rfl rfl av rfl rfl) ⟨fun _=>Qf,nofun,trivial⟩ ?_
 rintro _ cI ⟨ab,J⟩
 have cJ:=J.size
 refine kM J<|qd 7 rfl<|qv rfl (Qh Uw rfl)<|qv rfl (Qi (v:=.int .i64 a4) Qm rfl ab rfl)<|qv rfl (Qh Qqp rfl) ?_
 have bG:=(O.md J)
 refine qv rfl (Qi (v:=.int .i64 p0.Storage) Qm rfl bG rfl)<|qv rfl (Tt (a:=a4) (b:=p0.Storage) rfl rfl)<|qv rfl (Qh Qfk rfl)<|qe rfl (Zp (cs':=Xs.cs (Xs.mk p1 (decide (a4≤p0.Storage)) a2 a3 (Qc ((Qc (67+(Qc (18*a2))))+(Qc (16*a3)))) a4 (Qc ((Qc ((Qc (p0.Headers*p0.HeaderPrice))*(Qc ((Qc (67+(Qc (18*a2))))+(Qc (16*a3))))))+(Xw (Qc (p0.StoragePrice*a4)) nn7))) a5) vy6) (Ns).siz rfl rfl rfl ab rfl rfl) ?_
 rintro _ cK ⟨aY,S⟩
 have cL:=S.size
 refine qd 3 rfl<|qv rfl (Xa Wc rfl aY rfl) ?_
 have bH:=(((((((K.gr Y4).md M6).kz K7).md M8).gr G9).md J).md S)
 have aZ:=((((N.md M8 (Qr o)).gr G9).md J (Qr o)).md S (Qr o))
 refine qe rfl (Xf Wc rfl rfl (Xs.cs_ones _ _ (Qg.oneB aZ)) bH rfl rfl) ?_
 rintro _ cM ⟨a0,aw⟩
 have cN:=aw.size
 refine qm rfl<|Qa<|Qq ?_
 have bI:=(aZ.md aw (Qr o))
 have bJ:=((((((ad.kz K7).md M8).trans G9).md J).md S).md aw)
 cases hm
 exact⟨_,_,rfl,Za rfl (Zf Wc rfl a0 rfl) (Qn rfl),vy6,zy6,gy6,rfl,bI,⟨(Xm (A:=(fun x=>w.heap.size≤x)) o)⟩,bJ⟩
theorem Xdy {p0 r}(hm:Qlg p0=some r){w:World}:
 Calls Tryz.prog 15 [.agg (Zs.cs p0).toArray].toArray w fun e w'=>∃ v,e=.returned v∧(∃ ur0_0 zr0_0 gr0_0 Fr0_0,v=.tuple [.agg (Vf.cs r.1 ur0_0).toArray,.int .i64 r.2].toArray∧Jz Qdx w' zr0_0 gr0_0 32 ur0_0 Fr0_0 r.1.Choices∧Xd (zr0_0=0∨w.heap.size≤gr0_0)∧(∀ x∈Fr0_0,Pv [] [] w.heap.size x)∧Gr w w'):=by
 unfold Qlg at hm
 refine Xi 51 Tryz.func15 rfl rfl rfl<|qs 3 rfl<|qe rfl (Xo (cs:=Zs.cs p0) rfl rfl) ?_
 rintro _ w1 ⟨b1,rfl,aE,V,G1⟩
 have z1:=G1.size
 have aQ:=V.lt
 refine qe rfl (Xg (cs:=Vf.cs (Vf.mk [] 0#8) (.slice none 0 0)) Qix rfl) ?_
 rintro _ w2 ⟨b2,rfl,aF,O,G2⟩
 have z3:=G2.size
 have aR:=O.lt
 refine qm rfl<|qd 1 rfl<|qe rfl (Xg (cs:=Vf.cs (Vf.mk [] 0#8) (.slice none 0 0)) Qix rfl) ?_
 rintro _ w3 ⟨b3,rfl,aG,W,G3⟩
 have z5:=G3.size
 have aS:=W.lt
 refine Qa<|Qe<|qs 1 rfl<|qm rfl<|Qa<|Xn ?_
 have X7:=((((Gr.refl w).trans G1).trans G2).trans G3)
 refine Kf (α:=Nat × BitVec 8 × List Xs × BitVec 8 × Value × Nat × Nat × List Nat) ([3]++rg 5 45) (fun⟨n1,a5,a6,a7,vy8,zy8,gy8,Fy8⟩=>[(3,.int .i64 0),(5,bv a5)]) (fun⟨n1,a5,a6,a7,vy8,zy8,gy8,Fy8⟩ wr=>(Qv (Qgn p0) n1 (a5,a6,a7)=some r)∧Jz Qdx wr zy8 gy8 32 vy8 Fy8 a6∧Xd (zy8=0∨w3.heap.size≤gy8)∧(∀ x∈Fy8,Pv [] [] w3.heap.size x)∧Bx wr b3 29 (Vf.cs (Vf.mk a6 a7) vy8)∧Kz [(1,b3)] w3 wr) (fun⟨n1,a5,a6,a7,vy8,zy8,gy8,Fy8⟩=>n1) ⟨Xb,1#8,[],0#8,(.slice none 0 0),0,0,[]⟩ ?_ ?_ ?_
 · exact Ql
 · exact⟨hm,(Qsp Qdx _ 0 32),⟨(.inl rfl)⟩,Ll,W,Kz.refl _ _⟩
 clear hm;rintro⟨n1,a5,a6,a7,vy8,zy8,gy8,Fy8⟩ w4 ⟨hm,g,c,f,B,K4⟩
 have z8:=K4.size
 have ak:=g.flt
 have E:=g.lth
 have aH:=B.lt
 have hb:=Kl hm;clear hm;obtain⟨n1,rfl,hm⟩:=hb
 generalize G:Qv (Qgn p0) n1=X at hm
 unfold Qgn at hm
 try dsimp only at hm
 refine Qe<|qs 2 rfl<|qm rfl<|qv rfl (Xhk (p:=a5) (q:=4#8) rfl rfl)<|Qa<|Kx hm rfl (fun c1 hm=>?_) (fun c1 hm=>?_)
 · refine Jl<|Xu<|Xu<|Jk<|Xl<|qs 3 rfl ?_
   refine qv rfl (Xa Ic rfl B rfl) ?_
   have al:=((O.gr G3).kz K4)
   refine qe rfl (Xf Ic rfl rfl (Vf.cs_ones _ _ (Jz.oneB g)) al rfl rfl) ?_
   rintro _ aT ⟨Y,P⟩
   have aU:=P.size
   refine qm rfl<|Qa<|Qq ?_
   have am:=(g.md P (Qb (Qr (b:=b2) c)) (Bl (A:=fun x=>1=0∨x≠b2) f Ll Cc (fun x hx=>.inr (by omega))))
   have an:=((X7.kz K4).md P)
   cases hm
   exact⟨_,_,rfl,Za rfl (Zf Ic rfl Y rfl) (Qn rfl),vy8,zy8,gy8,Fy8,rfl,am,⟨(Xm (A:=(fun x=>w.heap.size≤x)) c)⟩,(Bl (A:=(Pv [] [] w.heap.size)) f Ll Cc (fun x hx=>.inr (.inr (by omega)))),an⟩
 refine qu<|Qe<|Xn<|qs 9 rfl ?_
 have ao:=(((V.gr G2).gr G3).kz K4)
 refine qv rfl (Xa Ib rfl ao rfl)<|qm rfl ?_
 obtain⟨x9,ap,hm⟩:=Qd hm
 refine qe rfl (eC Qk3 rfl (Qlf ap)) ?_
 rintro _ w5 ⟨H,h,j,rfl,s,d,G5⟩
 have aV:=G5.size
 have Z:=s.lth
 refine qn 3 rfl<|qe rfl (Xg (cs:=Xs.cs (Xs.mk 0#8 false 0 0 0 0 0 []) (.slice none 0 0)) Cz rfl) ?_
 rintro _ w6 ⟨b6,rfl,aI,aa,G6⟩
 have aW:=G6.size
 have aJ:=aa.lt
 have ab:=(s.gr G6)
 refine qe rfl (Xf Wc rfl rfl (Xs.cs_ones _ _ (Qg.oneB ab)) aa rfl rfl) ?_
 rintro _ w7 ⟨ac,M7⟩
 have aX:=M7.size
 refine qm rfl<|Qa<|Qe<|qs 2 rfl<|qm rfl<|qv rfl (Kg (a:=x9.2) (b:=0) rfl rfl) ?_
 refine Qa<|Zv hm rfl (fun c2 hm=>?_) (fun c2 hm=>?_)
 · refine qs 4 rfl<|qv rfl (Zk (cs:=Vf.cs (Vf.mk [] 0#8) (.slice none 0 0)) Qwo rfl rfl)<|qm rfl ?_
   have Y1:=Gr.trans G5 G6
   have aq:=((((O.gr G3).kz K4).gr Y1).md M7)
   refine qe rfl (Xf Ic rfl rfl (Vf.cs_ones _ _ rfl) aq rfl rfl) ?_
   rintro _ w8 ⟨ar,M8⟩
   have aY:=M8.size
   refine qm rfl<|qb<|Jf<|Xz<|Xz ?_
   refine Jf<|Xz ?_
   have au:=((((X7.kz K4).trans Y1).md M7).md M8)
   cases hm
   exact⟨_,_,rfl,Za rfl (Zf Ic rfl ar rfl) (Qn rfl),(.slice none 0 0),0,0,[],rfl,(Qsp Qdx _ 0 32),⟨.inl rfl⟩,Ll,au⟩
 refine qu<|qs 7 rfl<|qv rfl (Qh Qfi rfl) ?_
 have Y2:=Gr.trans G5 G6
 have ad:=((B.gr Y2).md M7)
 refine qv rfl (Qi (v:=vy8) Qda rfl ad rfl)<|qv rfl (Xa Wc rfl ac rfl) ?_
 have ae:=(ab.md M7 (Qw Z))
 refine qe rfl (Xa9 (R:=Qdx) (F:=(zf h j)) [(x9.1,H)] Qwq rfl rfl rfl rfl rfl (by simp only[List.mem_cons,List.not_mem_nil,or_false];rintro p rfl;exact⟨_,_,_,(Qg.rd ae),(Xb1 _ _)⟩) (Xi8 ae.lth.o)) ?_
 rintro aZ w9 ⟨a0,aK,Q,G9⟩
 have a1:=G9.size
 have aL:=Q.flt
 have aM:=Q.lth
 have av:=(((g.gr Y2).md M7 (Qb (Qw (b:=b6) E)) (fun x hx=>.inr (by have:=ak x hx;omega))).gr G9)
 obtain⟨I,af,hm⟩:=Qd hm
 refine qe rfl (Xa6 (l:=a6) (m:=[x9.1]) Qvx rfl rfl av (Jz.rd Q) af (by decide) (Bm (A:=fun x=>zy8=0∨x≠gy8) (Xm (A:=(fun x=>zy8=0∨x≠gy8)) d (fun x hx=>(Qb E.o))))) ?_
 rintro t a2 ⟨L,M,y,k,aN,n⟩
 have a3:=k.size
 have aO:=y.flt
 refine qv rfl (Qh Qfi rfl) ?_
 have aw:=((ad.gr G9).ka k (Qb (Qr (b:=b3) c)))
 refine qe rfl (Zp (cs':=Vf.cs (Vf.mk I a7) t) (Qda).siz rfl rfl (Jz.oneB y) aw rfl rfl) ?_
 rintro _ ax ⟨J,z⟩
 have a4:=z.size
 refine Qa ?_
 have a8:=((((((X7.kz K4).trans Y2).md M7).trans G9).ka k (Qb (Xm (A:=(fun x=>w.heap.size≤x)) c))).md z)
 refine qj (β:=Bool) (rg 28 20) (fun K=>[(47,.bool K)]) (fun K wr=>(Qdd a5 a7 X I K=some r)∧Kz [] ax wr) ?_ ?_
 · refine dw [([])] [] (.leaf [(0,10),(1,10),(2,10),(3,10),(4,10),(5,10),(6,10),(7,10),(8,10),(9,10),(10,10),(11,10),(12,10),(13,10),(14,10),(15,10),(16,10),(17,10),(18,10),(19,10)]) ?_
   intro ag D aP
   refine Zz<|dh 0 rfl rfl (fun w hS=>Qh Qfk rfl) ?_
   have ah:=((((ac.gr G9).ka k (Qb (Qw (b:=b6) E))).md z).gr D)
   refine dh 0 rfl rfl (fun w hS=>Qi (v:=.bool x9.1.Fits) Ns rfl (Bx.kp ah hS) rfl)<|Xei hm 0 rfl rfl (Kp.refl ([]) ag) (fun w hS=>Qt rfl) (fun c4 hm=>?_) (fun c4 hm=>?_)
   · refine dx 0 rfl rfl<|dx 0 rfl rfl<|dx 0 rfl rfl<|dx 0 rfl rfl<|dx 0 rfl rfl<|dx 0 rfl rfl<|dx 0 rfl rfl ?_
     refine dx 0 rfl rfl<|dx 0 rfl rfl<|dx 0 rfl rfl<|dx 0 rfl rfl<|dx 0 rfl rfl<|dx 0 rfl rfl<|dx 0 rfl rfl ?_
     refine dx 0 rfl rfl<|dx 0 rfl rfl<|dm 0 rfl rfl<|Qk ?_
     exact⟨rfl,false,Ql,hm,(Xe.gr D)⟩
   refine dh 0 rfl rfl (fun w hS=>Qh Qfj rfl) ?_
   have S:=(J.gr D)
   refine dh 0 rfl rfl (fun w hS=>Qi (v:=bv a7) Zb rfl (Bx.kp S hS) rfl)<|dh 0 rfl rfl (fun w hS=>Vt (p:=a7) (q:=0#8) rfl rfl)<|qqI hm 0 rfl rfl (Kp.refl ([]) ag) (fun w hS=>Qt rfl) (fun c5 hm=>?_) (fun c5 hm=>?_)
   · refine dx 0 rfl rfl<|dx 0 rfl rfl<|dx 0 rfl rfl<|dx 0 rfl rfl<|dx 0 rfl rfl<|dx 0 rfl rfl<|dx 0 rfl rfl ?_
     refine dx 0 rfl rfl<|dx 0 rfl rfl<|dx 0 rfl rfl<|dx 0 rfl rfl<|dm 0 rfl rfl<|dm 0 rfl rfl<|Qk ?_
     exact⟨rfl,true,Ql,hm,(Xe.gr D)⟩
   refine dh 0 rfl rfl (fun w hS=>Qh Qcx rfl)<|dh 0 rfl rfl (fun w hS=>Qi (v:=.int .i64 x9.1.Cost) Qm rfl (Bx.kp ah hS) rfl)<|dh 0 rfl rfl (fun w hS=>Qh Qfi rfl)<|dh 0 rfl rfl (fun w hS=>Qi (v:=t) Qda rfl (Bx.kp S hS) rfl)<|dh 0 rfl rfl (fun w hS=>Qh Qfj rfl)<|dh 0 rfl rfl (fun w hS=>Qi (v:=bv a7) Zb rfl (Bx.kp S hS) rfl)<|dh 0 rfl rfl (fun w hS=>Xhu (p:=a7) (q:=1#8) rfl rfl) ?_
   obtain⟨T,N,hm⟩:=Qd hm
   have ai:=((y.md z (Qb (Nt (b:=b3) n (Qr c))) (Qac (Bl (A:=fun x=>1=0∨x≠b3) f Ll Cc (fun x hx=>.inr (by omega))) (Bm (A:=fun x=>1=0∨x≠b3) (Qgl (Xm (A:=(fun x=>x≠b3)) d))))).gr D)
   refine dh 0 rfl rfl (fun w hS=>Xhg (i:=Qs (a7-1#8)) Tryz.underlying27 (Wc).siz rfl (Jz.rd (Jz.kp ai hS (.inr List.not_mem_nil) (fun _ _=>List.not_mem_nil))) rfl N)<|dh 0 rfl rfl (fun w hS=>Qh Qcx rfl)<|dh 0 rfl rfl (fun w hS=>Xh8 (q:=6) (u:=.int .i64 T.Cost) Qm rfl (Jz.rd (Jz.kp ai hS (.inr List.not_mem_nil) (fun _ _=>List.not_mem_nil))) N (by first|rfl|omega) (fun _=>rfl))<|dh 0 rfl rfl (fun w hS=>Jv (a:=x9.1.Cost) (b:=T.Cost) rfl rfl)<|dm 0 rfl rfl<|dm 0 rfl rfl<|Qk ?_
   exact⟨rfl,(decide (x9.1.Cost<T.Cost)),Ql,hm,(Xe.gr D)⟩
 clear hm;rintro K ay ⟨hm,C⟩
 have a9:=C.size
 unfold Qdd at hm
 refine Si hm rfl (fun c3 hm=>?_) (fun c3 hm=>?_)
 · refine Jn<|Xh<|Xl<|qg 3 rfl<|qm rfl<|qv rfl (Qv7 (p:=a5) (q:=1#8) rfl rfl)<|qm rfl ?_
   refine Qk ?_
   have K_38:Kz [(1,b3)] w3 ay:=((((((K4.gr Y2).md M7).gr G9).ka k (Qb (Xm (A:=(fun x=>w3.heap.size≤x)) c))).md z).kz C)
   have az:=((y.md z (Qb (Nt (b:=b3) n (Qr c))) (Qac (Bl (A:=fun x=>1=0∨x≠b3) f Ll Cc (fun x hx=>.inr (by omega))) (Bm (A:=fun x=>1=0∨x≠b3) (Qgl (Xm (A:=(fun x=>x≠b3)) d))))).kz C Qf (fun x hx=>Qf))
   have aA:=(J.kz C)
   subst G
   exact⟨rfl,⟨n1,a5+1#8,I,a7,t,L,M,(Fy8++(zf h j))⟩,Ql,⟨hm,az,⟨(Tq (A:=(fun x=>w3.heap.size≤x)) n (Xm (A:=(fun x=>w3.heap.size≤x)) c))⟩,(Qac (Bl (A:=(Pv [] [] w3.heap.size)) f Ll Cc (fun x hx=>.inr (.inr (by omega)))) (Bm (A:=(Pv [] [] w3.heap.size)) (Qt6 (Xm (A:=(fun x=>Mz [] x∨w3.heap.size≤x)) d)))),aA,K_38⟩,Nat.lt_succ_self _⟩
 refine qg 3 rfl<|qm rfl<|qv rfl (Qh Qfj rfl) ?_
 have aB:=(J.kz C)
 refine qe rfl (Zp (cs':=Vf.cs (Vf.mk I a5) t) (Zb).siz rfl rfl rfl aB rfl rfl) ?_
 rintro _ aC ⟨aj,U⟩
 have ba:=U.size
 refine Qk<|Xh<|Xl<|qg 3 rfl<|qm rfl<|qv rfl (Qv7 (p:=a5) (q:=1#8) rfl rfl)<|qm rfl ?_
 refine Qk ?_
 have K_36:Kz [(1,b3)] w3 aC:=(((((((K4.gr Y2).md M7).gr G9).ka k (Qb (Xm (A:=(fun x=>w3.heap.size≤x)) c))).md z).kz C).md U)
 have aD:=(((y.md z (Qb (Nt (b:=b3) n (Qr c))) (Qac (Bl (A:=fun x=>1=0∨x≠b3) f Ll Cc (fun x hx=>.inr (by omega))) (Bm (A:=fun x=>1=0∨x≠b3) (Qgl (Xm (A:=(fun x=>x≠b3)) d))))).kz C Qf (fun x hx=>Qf)).md U (Qb (Nt (b:=b3) n (Qr c))) (Qac (Bl (A:=fun x=>1=0∨x≠b3) f Ll Cc (fun x hx=>.inr (by omega))) (Bm (A:=fun x=>1=0∨x≠b3) (Qgl (Xm (A:=(fun x=>x≠b3)) d)))))
 subst G
 exact⟨rfl,⟨n1,a5+1#8,I,a5,t,L,M,(Fy8++(zf h j))⟩,Ql,⟨hm,aD,⟨(Tq (A:=(fun x=>w3.heap.size≤x)) n (Xm (A:=(fun x=>w3.heap.size≤x)) c))⟩,(Qac (Bl (A:=(Pv [] [] w3.heap.size)) f Ll Cc (fun x hx=>.inr (.inr (by omega)))) (Bm (A:=(Pv [] [] w3.heap.size)) (Qt6 (Xm (A:=(fun x=>Mz [] x∨w3.heap.size≤x)) d)))),aj,K_36⟩,Nat.lt_succ_self _⟩
end Go.Proofs.YtopkalcefepilaaGreat.Mx
