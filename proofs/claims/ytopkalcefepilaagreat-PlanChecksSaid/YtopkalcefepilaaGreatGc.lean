/- Walks that follow mirrors: Gc. Printed by mx.py. -/
import Derived.Test.YtopkalcefepilaaGreatGh
import Derived.Test.YtopkalcefepilaaGreatZd
set_option linter.unusedVariables false
set_option linter.unusedSimpArgs false
set_option maxRecDepth 100000
set_option maxHeartbeats 2000000
namespace Go.Proofs.YtopkalcefepilaaGreat.Mx
open Go Go.RowKit Go.Sx
theorem Qqg:En Tryz.prog 89:=fun _ _=>by kernel_rfl
theorem Qpb:En Tryz.prog 143:=fun _ _=>by kernel_rfl
theorem Qqf:En Tryz.prog 88:=fun _ _=>by kernel_rfl
theorem Du:FA Tryz.prog 26 0 0:=fun _ _ _=>by kernel_rfl
theorem Qap:En Tryz.prog 47:=fun _ _=>by kernel_rfl
theorem Th:FA Tryz.prog 26 1 1:=fun _ _ _=>by kernel_rfl
theorem Af:FA Tryz.prog 26 2 2:=fun _ _ _=>by kernel_rfl
theorem Ag:FA Tryz.prog 26 3 3:=fun _ _ _=>by kernel_rfl
theorem Ah:FA Tryz.prog 26 4 4:=fun _ _ _=>by kernel_rfl
theorem Ai:FA Tryz.prog 26 5 5:=fun _ _ _=>by kernel_rfl
theorem Qh5:Wt Tryz.prog 30 3 3 1 [.int .i64 0,.int .i64 0,.int .i64 0]:=La Tryz.underlying30 (Qe).siz Dm rfl rfl (by kernel_rfl)
theorem Pf:ZV Tryz.prog 32 (.agg [.int .u8 0,.bool false,.int .i64 0,.int .i64 0,.int .i64 0,.int .i64 0,.int .i64 0,.slice none 0 0].toArray):=fun _=>by kernel_rfl
theorem Wx:Vz Tryz.prog 26 9:=fun _=>⟨by kernel_rfl,by kernel_rfl⟩
theorem Qps:En Tryz.prog 29:=fun _ _=>by kernel_rfl
theorem Es:BS Tryz.prog 32 (fun i=>[(0,1),(1,1),(2,1),(3,1),(4,1),(5,1),(6,1),(7,1)][i]?) [.int .u8 0,.bool false,.int .i64 0,.int .i64 0,.int .i64 0,.int .i64 0,.int .i64 0,.slice none 0 0]:=Ny Tryz.underlying32 Pf ⟨rfl,(Zb).siz,rfl,(He).siz,rfl,(Qe).siz,rfl,(Qe).siz,rfl,(Qe).siz,rfl,(Qe).siz,rfl,(Qe).siz,rfl,(Zp).siz,trivial⟩
theorem Zf:Vz Tryz.prog 32 8:=fun _=>⟨by kernel_rfl,by kernel_rfl⟩
theorem Qja:FA Tryz.prog 26 6 6:=fun _ _ _=>by kernel_rfl
theorem Gq:FA Tryz.prog 24 0 0:=fun _ _ _=>by kernel_rfl
theorem Qi7:En Tryz.prog 144:=fun _ _=>by kernel_rfl
theorem Gs:FA Tryz.prog 24 1 1:=fun _ _ _=>by kernel_rfl
theorem Me:FA Tryz.prog 24 2 2:=fun _ _ _=>by kernel_rfl
theorem Qpc:En Tryz.prog 145:=fun _ _=>by kernel_rfl
theorem Tl:FA Tryz.prog 44 2 2:=fun _ _ _=>by kernel_rfl
theorem Mf:FA Tryz.prog 44 3 3:=fun _ _ _=>by kernel_rfl
theorem Qqh:En Tryz.prog 90:=fun _ _=>by kernel_rfl
theorem Qhs:CV Tryz.prog 3 22 .u64:=fun _ _ _=>by kernel_rfl
theorem Qpz:En Tryz.prog 48:=fun _ _=>by kernel_rfl
theorem Qpt:En Tryz.prog 30:=fun _ _=>by kernel_rfl
theorem Lr:FA Tryz.prog 32 3 3:=fun _ _ _=>by kernel_rfl
theorem Py:FA Tryz.prog 32 5 5:=fun _ _ _=>by kernel_rfl
theorem Wn:Vz Tryz.prog 137 2:=fun _=>⟨by kernel_rfl,by kernel_rfl⟩
theorem Qa2:ZV Tryz.prog 137 (.agg [.int .i64 0,.int .i64 0].toArray):=fun _=>by kernel_rfl
theorem Tg:FA Tryz.prog 137 0 0:=fun _ _ _=>by kernel_rfl
theorem Lo:FA Tryz.prog 137 1 1:=fun _ _ _=>by kernel_rfl
theorem Qe1:En Tryz.prog 127:=fun _ _=>by kernel_rfl
theorem Qi8:En Tryz.prog 147:=fun _ _=>by kernel_rfl
theorem Mc:FA Tryz.prog 120 0 0:=fun _ _ _=>by kernel_rfl
theorem Qow:CV Tryz.prog 149 151 .u64:=fun _ _ _=>by kernel_rfl
theorem Qp6:En Tryz.prog 131:=fun _ _=>by kernel_rfl
theorem Rf:En Tryz.prog 129:=fun _ _=>by kernel_rfl
theorem Qpe:En Tryz.prog 148:=fun _ _=>by kernel_rfl
theorem Qea:En Tryz.prog 78:=fun _ _=>by kernel_rfl
theorem Qiz:En Tryz.prog 99:=fun _ _=>by kernel_rfl
theorem Qdi:ZV Tryz.prog 149 (.int .i64 0):=fun _=>by kernel_rfl
theorem Yg:Ya Tryz.prog 149:=fun _=>⟨by kernel_rfl,by kernel_rfl⟩
theorem Qas:En Tryz.prog 98:=fun _ _=>by kernel_rfl
theorem Qsw:Ya Tryz.prog 155:=fun _=>⟨by kernel_rfl,by kernel_rfl⟩
theorem Qi9:En Tryz.prog 149:=fun _ _=>by kernel_rfl
theorem Qp5:En Tryz.prog 128:=fun _ _=>by kernel_rfl
theorem Qiu:En Tryz.prog 77:=fun _ _=>by kernel_rfl
theorem Qiy:En Tryz.prog 96:=fun _ _=>by kernel_rfl
theorem Qip:En Tryz.prog 53:=fun _ _=>by kernel_rfl
theorem Qq2:En Tryz.prog 54:=fun _ _=>by kernel_rfl
theorem Qit:En Tryz.prog 74:=fun _ _=>by kernel_rfl
theorem Qf4:Ya Tryz.prog 170:=fun _=>⟨by kernel_rfl,by kernel_rfl⟩
theorem Qar:En Tryz.prog 76:=fun _ _=>by kernel_rfl
theorem Dn:BS Tryz.prog 137 (fun i=>[(0,1),(1,1)][i]?) [.int .i64 0,.int .i64 0]:=Ny Tryz.underlying137 Qa2 ⟨rfl,(Qe).siz,rfl,(Qe).siz,trivial⟩
theorem Qql:En Tryz.prog 97:=fun _ _=>by kernel_rfl
theorem Qpu:En Tryz.prog 32:=fun _ _=>by kernel_rfl
theorem Ti:FA Tryz.prog 32 2 2:=fun _ _ _=>by kernel_rfl
theorem Ht:FA Tryz.prog 32 7 7:=fun _ _ _=>by kernel_rfl
theorem Lu:FA Tryz.prog 32 4 4:=fun _ _ _=>by kernel_rfl
theorem Tj:FA Tryz.prog 32 6 6:=fun _ _ _=>by kernel_rfl
theorem Lq:FA Tryz.prog 32 1 1:=fun _ _ _=>by kernel_rfl
noncomputable def Yx:Rp Qq:=Qd2 8 Qq.cs (fun a=>a.Witness) 1 ic (fun a v h=>⟨rfl,Qq.cs_ones a v h⟩)
theorem Nu:ZV Tryz.prog 29 (.agg [.slice none 0 0,.int .u8 0].toArray):=fun _=>by kernel_rfl
theorem Qiv:En Tryz.prog 9:=fun _ _=>by kernel_rfl
theorem Kw:Ya Tryz.prog 27:=fun _=>⟨by kernel_rfl,by kernel_rfl⟩
theorem Qoe:BS Tryz.prog 29 (fun i=>[(0,1),(1,1)][i]?) [.slice none 0 0,.int .u8 0]:=Ny Tryz.underlying29 Nu ⟨rfl,(Kw).siz,rfl,(Zb).siz,trivial⟩
theorem Wy:Vz Tryz.prog 29 2:=fun _=>⟨by kernel_rfl,by kernel_rfl⟩
theorem Vc:FA Tryz.prog 29 0 0:=fun _ _ _=>by kernel_rfl
theorem Qdo:Wt Tryz.prog 27 1 32 8 [.int .u8 0,.bool false,.int .i64 0,.int .i64 0,.int .i64 0,.int .i64 0,.int .i64 0,.slice none 0 0]:=La Tryz.underlying27 (Zf).siz Pf rfl rfl (by kernel_rfl)
theorem Qdm:Ph Tryz.prog 27 32 8 72:=Ep Tryz.underlying27 rfl (by kernel_rfl)
theorem Hb:FA Tryz.prog 29 1 1:=fun _ _ _=>by kernel_rfl
theorem Qtw {p0 p1 bp1 r}(hm:Qc9 p0 p1=some r){w:World}(hbp1:Bx w bp1 3 ([.int .i64 p1])):
 Calls Tryz.prog 89 [.int .i64 p0,.pointer (some ⟨bp1,0,none⟩)].toArray w fun e w'=>∃ v,e=.returned v∧(v=.bool r∧Gr w w'):=by
 have c:=hbp1.lt
 unfold Qc9 at hm
 refine Xj 11 Tryz.func89 rfl rfl rfl<|qs 1 rfl<|qm rfl<|qd 8 rfl ?_
 refine qm rfl<|qv rfl (Zo (a:=p0) (b:=0) rfl rfl)<|Zm hm rfl (Qt rfl) (fun c1 hm=>?_) (fun c1 hm=>?_)
 · refine qn 5 rfl<|Qa<|Qp ?_
   cases hm
   exact⟨_,_,rfl,Qr rfl (Ql rfl),rfl,(Gr.refl w)⟩
 refine qm rfl<|qv rfl (Qf (v:=.int .i64 p1) Qe rfl hbp1 rfl)<|qv rfl (Ky (a:=p0) (b:=p1) rfl rfl)<|qn 2 rfl<|Qa<|Qp ?_
 cases hm
 exact⟨_,_,rfl,Qr rfl (Ql rfl),rfl,(Gr.refl w)⟩
theorem Qw6 {p0 d vp0 zp0 gp0 op0 bp1_0 r}(hm:Qd6 p0 d=some r){w:World}(f:Rd w zp0 gp0 op0 1 vp0 (p0.map ic))(hbp1_0:Bx w bp1_0 3 ([.int .i64 d])):
 Calls Tryz.prog 143 [vp0,.func (.func 89) [].toArray [.pointer (some ⟨bp1_0,0,none⟩)].toArray].toArray w fun e w'=>∃ v,e=.returned v∧(v=.int .i64 r∧Gr w w'):=by
 have n:=f.lth
 have o:=hbp1_0.lt
 unfold Qd6 at hm
 refine Xj 19 Tryz.func143 rfl rfl rfl<|qs 1 rfl<|qm rfl<|Qa<|Qh<|Qh ?_
 refine qg 3 rfl<|qm rfl<|qv rfl (Vm (l:=p0) (c:=ic) Tryz.underlying30 rfl f)<|qm rfl<|Qa<|Xc<|Zv (α:=Nat × Int) ([4,5]++rg 8 11) (fun⟨n1,a2⟩=>[(4,.int .i64 0),(8,.int .i64 a2)]) (fun⟨n1,a2⟩ wr=>(Qs (Ec p0 d) n1 a2=some r)∧Kz [] w wr) (fun⟨n1,a2⟩=>n1) ⟨Qy,0⟩ ?_ ?_ ?_
 · exact Qi
 · exact⟨hm,Kz.refl _ _⟩
 clear hm;rintro⟨n1,a2⟩ w1 ⟨hm,K1⟩
 have z3:=K1.size
 have hb:=Zu hm;clear hm;obtain⟨n1,rfl,hm⟩:=hb
 generalize g:Qs (Ec p0 d) n1=m at hm
 unfold Ec at hm
 try dsimp only at hm
 refine qs 1 rfl<|qv rfl (Zo (a:=a2) (b:=(p0.length:Int)) rfl rfl)<|Qa<|Qh<|Zy hm rfl (fun c1 hm=>?_) (fun c1 hm=>?_)
 · refine Zd<|Xh<|Xh<|Zc<|Xa<|qs 1 rfl ?_
   refine qm rfl<|Qa<|Qp ?_
   have X9:=((Gr.refl w).kz K1)
   cases hm
   exact⟨_,_,rfl,Qr rfl (Ql rfl),rfl,X9⟩
 refine qu<|Qh<|Xc<|qs 2 rfl<|qm rfl ?_
 refine qm rfl<|qd 6 rfl<|qn 3 rfl ?_
 obtain⟨y3,h,hm⟩:=Qc hm
 have B4:=(f.kz K1)
 refine qv rfl (Jl (i:=a2) Tryz.underlying30 (Qe).siz rfl B4 rfl h)<|qv rfl (Zt (q:=0) (u:=.int .i64 y3) Qe rfl B4 h (by first|rfl|omega) rfl) ?_
 have B5:=(hbp1_0.kz K1)
 obtain⟨x4,j,hm⟩:=Qc hm
 refine qe rfl (Gp Qqg rfl rfl (Qtw j B5)) ?_
 rintro _ w2 ⟨rfl,G2⟩
 have z6:=G2.size
 refine Qa<|Zh hm rfl (fun c2 hm=>?_) (fun c2 hm=>?_)
 · refine qs 2 rfl<|qn 2 rfl<|Qa<|Qp<|Zk ?_
   refine Xp<|Xp<|Zk<|Xp ?_
   have X7:=(((Gr.refl w).kz K1).trans G2)
   cases hm
   exact⟨_,_,rfl,Qr rfl (Ql rfl),rfl,X7⟩
 refine Jb<|Xi<|Xa<|qg 2 rfl<|qv rfl (Xn (k:=.i64) (a:=a2) (b:=1) rfl rfl)<|qm rfl<|Qj ?_
 have K_8:Kz [] w w2:=(K1.gr G2)
 subst g
 exact⟨rfl,⟨n1,Qb (a2+1)⟩,Qi,⟨hm,K_8⟩,Nat.lt_succ_self _⟩
theorem Qw4 {p0 c vp0 zp0 gp0 op0 bp1_0 r}(hm:Qd5 p0 c=some r){w:World}(d:Rd w zp0 gp0 op0 1 vp0 (p0.map ic))(hbp1_0:Bx w bp1_0 3 ([.int .i64 c])):
 Calls Tryz.prog 88 [vp0,.func (.func 89) [].toArray [.pointer (some ⟨bp1_0,0,none⟩)].toArray].toArray w fun e w'=>∃ v,e=.returned v∧(v=.bool r∧Gr w w'):=by
 have g:=d.lth
 have h:=hbp1_0.lt
 unfold Qd5 at hm
 refine Xj 9 Tryz.func88 rfl rfl rfl<|qs 1 rfl<|qm rfl<|qd 5 rfl ?_
 refine qn 2 rfl ?_
 obtain⟨x1,f,hm⟩:=Qc hm
 refine qe rfl (eC Qpb rfl (Qw6 f d hbp1_0)) ?_
 rintro _ w1 ⟨rfl,G1⟩
 have z3:=G1.size
 refine qv rfl (Yq (a:=x1) (b:=0) rfl rfl)<|qm rfl<|Qa<|Qp ?_
 have X4:=((Gr.refl w).trans G1)
 cases hm
 exact⟨_,_,rfl,Qr rfl (Ql rfl),rfl,X4⟩
theorem Qca {p0 p1 vp1 zp1 gp1 op1 r}(hm:Si p0 p1=some r){w:World}(a:Rd w zp1 gp1 op1 1 vp1 (p1.map ic)):
 Calls Tryz.prog 47 [.int .i64 p0,vp1].toArray w fun e w'=>∃ v,e=.returned v∧(v=.bool r∧Gr w w'):=by
 have f:=a.lth
 unfold Si at hm
 refine Xj 9 Tryz.func47 rfl rfl rfl<|qs 2 rfl<|qe rfl (Xq (cs:=[.int .i64 p0]) rfl rfl) ?_
 rintro _ w1 ⟨b1,rfl,d,b,G1⟩
 have z2:=G1.size
 have g:=b.lt
 refine qm rfl<|qd 5 rfl<|qm rfl<|qv rfl (Tx rfl rfl) ?_
 have B4:=(a.gr G1)
 obtain⟨x1,c,hm⟩:=Qc hm
 refine qe rfl (eC Qqf rfl (Qw4 c B4 b)) ?_
 rintro _ w2 ⟨rfl,G2⟩
 have z5:=G2.size
 refine qv rfl (Zr rfl)<|qm rfl<|Qa<|Qp ?_
 have X6:=(((Gr.refl w).trans G1).trans G2)
 cases hm
 exact⟨_,_,rfl,Qr rfl (Ql rfl),rfl,X6⟩
theorem Qtg {p0 r}(hm:Au p0=some r){w:World}:
 Calls Tryz.prog 29 [.agg (Xg.cs p0).toArray].toArray w fun e w'=>∃ v,e=.returned v∧(v=.int .i64 r∧Gr w w'):=by
 unfold Au at hm
 refine Xj 36 Tryz.func29 rfl rfl rfl<|qs 2 rfl<|qe rfl (Xq (cs:=Xg.cs p0) rfl rfl) ?_
 rintro _ w1 ⟨b1,rfl,u,j,G1⟩
 have z1:=G1.size
 have F:=j.lt
 refine qm rfl<|Qa<|Qh ?_
 have X3:=((Gr.refl w).trans G1)
 refine qj (β:=Bool) (rg 3 33) (fun a1=>[(35,.bool a1)]) (fun a1 wr=>(Rs a1=some r)∧Kz [] w1 wr) ?_ ?_
 · refine dw [([])] [] (.leaf [(0,10),(1,10),(2,0),(3,0),(4,10),(5,10),(6,10),(7,10),(8,10),(9,10),(10,10),(11,0),(12,0),(13,10),(14,10),(15,10),(16,10),(17,10),(18,0),(19,0),(20,10),(21,10),(22,10),(23,10),(24,10),(25,10),(26,10),(27,10),(28,10),(29,0),(30,0),(31,10),(32,10)]) ?_
   intro w3 G3 G
   refine Jp<|dh 0 rfl rfl (fun w hS=>Qg Du rfl) ?_
   have B7:=(j.gr G3)
   refine dh 0 rfl rfl (fun w hS=>Qf (v:=.int .i64 p0.Depth) Qe rfl (Bx.kp B7 hS) rfl)<|qz [] rfl (Kt [p0.Depth] ic Gi rfl rfl (Vj rfl) rfl rfl rfl) ⟨fun _=>Qn,trivial⟩ ?_
   rintro H w4 ⟨I,x,k,G4⟩
   have z8:=G4.size
   have J:=k.lth
   refine kG G4 ?_
   obtain⟨x2,o,hm⟩:=Qc hm
   refine qz [] rfl (eC Qap rfl (Qca o (Qk.rd k))) ⟨fun _=>Qn,trivial⟩ ?_
   rintro _ w5 ⟨rfl,G5⟩
   have K:=G5.size
   refine kG G5 ?_
   have Y1:=Gr.trans G4 G5
   have c:=((Kp.refl ([]) w3).gr Y1)
   refine qh 0 rfl rfl c (fun w hS=>Zr rfl)<|Il hm 0 rfl rfl c (fun w hS=>Qt rfl) (fun c2 hm=>?_) (fun c2 hm=>?_)
   · refine qx 0 rfl rfl c<|qx 0 rfl rfl c<|qx 0 rfl rfl c<|qx 0 rfl rfl c<|qx 0 rfl rfl c<|qy rfl<|qy rfl ?_
     refine qx 0 rfl rfl c<|dn 0 rfl rfl c<|dn 0 rfl rfl c<|qx 0 rfl rfl c<|qx 0 rfl rfl c<|qy rfl<|qy rfl ?_
     refine qx 0 rfl rfl c<|dn 0 rfl rfl c<|dn 0 rfl rfl c<|qx 0 rfl rfl c<|qx 0 rfl rfl c<|qx 0 rfl rfl c<|qx 0 rfl rfl c ?_
     refine qx 0 rfl rfl c<|qx 0 rfl rfl c<|qy rfl<|qy rfl<|qx 0 rfl rfl c<|dn 0 rfl rfl c<|Qj ?_
     have Y2:=Gr.trans G3 Y1
     exact⟨rfl,true,Qi,hm,(Qw.gr Y2)⟩
   refine qh 0 rfl rfl c (fun w hS=>Qg Du rfl)<|qh 0 rfl rfl c (fun w hS=>Qf (v:=.int .i64 p0.Depth) Qe rfl (Bx.kp B7 hS) rfl) ?_
   obtain⟨nn3,hnn3,hm⟩:=Qc hm
   refine qh 0 rfl rfl c (fun w hS=>Hi (a:=1) (b:=p0.Depth) rfl rfl hnn3)<|qh 0 rfl rfl c (fun w hS=>Qg Th rfl)<|qh 0 rfl rfl c (fun w hS=>Qf (v:=.int .i64 p0.Revoked) Qe rfl (Bx.kp B7 hS) rfl)<|qz [] rfl (Kt [p0.Revoked] ic Gi rfl rfl (Vj rfl) rfl rfl rfl) ⟨fun _=>Qn,trivial⟩ ?_
   rintro L w6 ⟨M,y,l,G6⟩
   have N:=G6.size
   have z:=l.lth
   refine kG G6 ?_
   obtain⟨x4,p,hm⟩:=Qc hm
   refine qz [] rfl (eC Qap rfl (Qca p (Qk.rd l))) ⟨fun _=>Qn,trivial⟩ ?_
   rintro _ w7 ⟨rfl,G7⟩
   have O:=G7.size
   refine kG G7 ?_
   have Y3:=Gr.trans G6 G7
   have d:=(c.gr Y3)
   refine qh 0 rfl rfl d (fun w hS=>Zr rfl)<|dn 0 rfl rfl d<|Il hm 0 rfl rfl d (fun w hS=>Qt rfl) (fun c3 hm=>?_) (fun c3 hm=>?_)
   · refine qx 0 rfl rfl d<|qx 0 rfl rfl d<|qy rfl<|qy rfl<|qx 0 rfl rfl d<|dn 0 rfl rfl d<|dn 0 rfl rfl d ?_
     refine qx 0 rfl rfl d<|qx 0 rfl rfl d<|qx 0 rfl rfl d<|qx 0 rfl rfl d<|qx 0 rfl rfl d<|qx 0 rfl rfl d<|qy rfl ?_
     refine qy rfl<|qx 0 rfl rfl d<|dn 0 rfl rfl d<|Qj ?_
     have Y4:=Gr.trans (Gr.trans G3 Y1) Y3
     exact⟨rfl,true,Qi,hm,(Qw.gr Y4)⟩
   refine qh 0 rfl rfl d (fun w hS=>Qg Af rfl)<|qh 0 rfl rfl d (fun w hS=>Qf (v:=.int .i64 p0.Storage) Qe rfl (Bx.kp B7 hS) rfl)<|qz [] rfl (Kt [p0.Storage] ic Gi rfl rfl (Vj rfl) rfl rfl rfl) ⟨fun _=>Qn,trivial⟩ ?_
   rintro P w8 ⟨Q,A,m,G8⟩
   have R:=G8.size
   have B:=m.lth
   refine kG G8 ?_
   obtain⟨x5,q,hm⟩:=Qc hm
   refine qz [] rfl (eC Qap rfl (Qca q (Qk.rd m))) ⟨fun _=>Qn,trivial⟩ ?_
   rintro _ w9 ⟨rfl,G9⟩
   have S:=G9.size
   refine kG G9 ?_
   have f:=((d.gr G8).gr G9)
   refine qh 0 rfl rfl f (fun w hS=>Zr rfl)<|dn 0 rfl rfl f<|Il hm 0 rfl rfl f (fun w hS=>Qt rfl) (fun c4 hm=>?_) (fun c4 hm=>?_)
   · refine qx 0 rfl rfl f<|qx 0 rfl rfl f<|qx 0 rfl rfl f<|qx 0 rfl rfl f<|qx 0 rfl rfl f<|qx 0 rfl rfl f<|qy rfl ?_
     refine qy rfl<|qx 0 rfl rfl f<|dn 0 rfl rfl f<|Qj ?_
     have Y5:=Gr.trans (Gr.trans (Gr.trans (Gr.trans G3 Y1) Y3) G8) G9
     exact⟨rfl,true,Qi,hm,(Qw.gr Y5)⟩
   refine qh 0 rfl rfl f (fun w hS=>Qg Ag rfl)<|qh 0 rfl rfl f (fun w hS=>Qf (v:=.int .i64 p0.Headers) Qe rfl (Bx.kp B7 hS) rfl)<|qh 0 rfl rfl f (fun w hS=>Qg Ah rfl)<|qh 0 rfl rfl f (fun w hS=>Qf (v:=.int .i64 p0.HeaderPrice) Qe rfl (Bx.kp B7 hS) rfl)<|qh 0 rfl rfl f (fun w hS=>Qg Ai rfl)<|qh 0 rfl rfl f (fun w hS=>Qf (v:=.int .i64 p0.StoragePrice) Qe rfl (Bx.kp B7 hS) rfl)<|qz [] rfl (Kt [p0.Headers,p0.HeaderPrice,p0.StoragePrice] ic Qh5 rfl rfl (Vj rfl) rfl rfl rfl) ⟨fun _=>Qn,trivial⟩ ?_
   rintro C T ⟨D,s,i,g⟩
   have U:=g.size
   have E:=i.lth
   refine kG g ?_
   obtain⟨x6,t,hm⟩:=Qc hm
   refine qz [] rfl (eC Qap rfl (Qca t (Qk.rd i))) ⟨fun _=>Qn,trivial⟩ ?_
   rintro _ V ⟨rfl,h⟩
   have W:=h.size
   refine kG h ?_
   have n:=((f.gr g).gr h)
   refine qh 0 rfl rfl n (fun w hS=>Zr rfl)<|dn 0 rfl rfl n<|Qj ?_
   exact⟨rfl,(!x6),Qi,hm,(((((((Qw.gr G3).gr Y1).gr Y3).gr G8).gr G9).gr g).gr h)⟩
 clear hm;rintro a1 w2 ⟨hm,K2⟩
 have z4:=K2.size
 unfold Rs at hm
 refine Zh hm rfl (fun c1 hm=>?_) (fun c1 hm=>?_)
 · refine qs 1 rfl<|qm rfl<|qb ?_
   have X5:=(X3.kz K2)
   cases hm
   exact⟨_,_,rfl,Qr rfl (Ql rfl),rfl,X5⟩
 refine qu<|qs 1 rfl<|qm rfl<|Qa<|Qp ?_
 have X6:=(X3.kz K2)
 cases hm
 exact⟨_,_,rfl,Qr rfl (Ql rfl),rfl,X6⟩
theorem Qke {p0 r}(hm:Mr p0=some r){w:World}:
 Calls Tryz.prog 144 [wv p0].toArray w fun e w'=>∃ v,e=.returned v∧(v=.bool r∧Gr w w'):=by
 unfold Mr at hm
 refine Xj 21 Tryz.func144 rfl rfl rfl<|qs 1 rfl<|qm rfl<|Qa<|Qh<|qj (β:=Bool) (rg 4 6) (fun a1=>[(9,.bool a1)]) (fun a1 wr=>(Ap p0 a1=some r)∧Kz [] w wr) ?_ ?_
 · refine qg 6 rfl<|qm rfl<|qv rfl (Qgs (c:=p0) (d:=2#64) rfl rfl)<|Zm hm rfl (Qt rfl) (fun c4 hm=>?_) (fun c4 hm=>?_)
   · refine qn 3 rfl<|Qj ?_
     exact⟨rfl,true,Qi,hm,Qw⟩
   refine qm rfl<|qv rfl (Bo (c:=p0) (d:=1048575#64) rfl rfl)<|qm rfl<|Qj ?_
   exact⟨rfl,(decide (1048575#64<p0)),Qi,hm,Qw⟩
 clear hm;rintro a1 w1 ⟨hm,K1⟩
 have z1:=K1.size
 unfold Ap at hm
 refine Zh hm rfl (fun c1 hm=>?_) (fun c1 hm=>?_)
 · refine qs 1 rfl<|qm rfl<|qb ?_
   have X2:=((Gr.refl w).kz K1)
   cases hm
   exact⟨_,_,rfl,Qr rfl (Ql rfl),rfl,X2⟩
 refine qu<|Qh<|qs 1 rfl<|qm rfl<|Qa ?_
 refine Xc ?_
 have X3:=((Gr.refl w).kz K1)
 refine Zv (α:=Nat × BitVec 64) ([2,3]++rg 10 11) (fun⟨n2,a3⟩=>[(2,.bool false),(3,wv a3)]) (fun⟨n2,a3⟩ wr=>(Qs (Aq p0) n2 a3=some r)∧Kz [] w1 wr) (fun⟨n2,a3⟩=>n2) ⟨Qy,2#64⟩ ?_ ?_ ?_
 · exact Qi
 · exact⟨hm,Kz.refl _ _⟩
 clear hm;rintro⟨n2,a3⟩ w2 ⟨hm,K2⟩
 have z4:=K2.size
 have hb:=Zu hm;clear hm;obtain⟨n2,rfl,hm⟩:=hb
 generalize f:Qs (Aq p0) n2=h at hm
 unfold Aq at hm
 try dsimp only at hm
 refine Qh<|qs 5 rfl<|qn 2 rfl<|qv rfl (Br (a:=a3) (b:=a3) rfl rfl)<|qm rfl ?_
 refine qv rfl (Qnf (c:=a3*a3) (d:=p0) rfl rfl)<|Qa<|Zy hm rfl (fun c2 hm=>?_) (fun c2 hm=>?_)
 · refine Zd<|Xh<|Xh<|Zc<|Xa<|qs 1 rfl ?_
   refine qm rfl<|Qa<|Qp ?_
   have X7:=(X3.kz K2)
   cases hm
   exact⟨_,_,rfl,Qr rfl (Ql rfl),rfl,X7⟩
 refine qu<|Qh<|Xc<|qs 4 rfl<|qm rfl ?_
 refine qm rfl ?_
 obtain⟨x4,g,hm⟩:=Qc hm
 refine qv rfl (Hr (c:=p0) (d:=a3) rfl rfl g)<|qv rfl (Oz (c:=x4) (d:=0#64) rfl rfl)<|Qa<|Zq hm rfl (fun c3 hm=>?_) (fun c3 hm=>?_)
 · refine qs 1 rfl<|qm rfl<|Qa<|Qp<|Zk<|Xp ?_
   refine Xp<|Zk<|Xp ?_
   have X5:=(X3.kz K2)
   cases hm
   exact⟨_,_,rfl,Qr rfl (Ql rfl),rfl,X5⟩
 refine Jb<|Xi<|Xa<|qg 3 rfl<|qm rfl<|qv rfl (Qnm (a:=a3) (b:=1#64) rfl rfl)<|qm rfl ?_
 refine Qj ?_
 have K_6:Kz [] w1 w2:=K2
 subst f
 exact⟨rfl,⟨n2,a3+1#64⟩,Qi,⟨hm,K_6⟩,Nat.lt_succ_self _⟩
theorem Qsv {p0 p1 p2 r}(hm:Ao p0 p1 p2=some r){w:World}:
 Calls Tryz.prog 145 [wv p0,wv p1,wv p2].toArray w fun e w'=>∃ v,e=.returned v∧(v=wv r∧Gr w w'):=by
 unfold Ao at hm
 refine Xj 31 Tryz.func145 rfl rfl rfl<|qs 1 rfl<|qm rfl<|qd 3 rfl ?_
 refine qm rfl ?_
 obtain⟨x1,i,hm⟩:=Qc hm
 refine qv rfl (Hr (c:=1#64) (d:=p2) rfl rfl i)<|qm rfl<|Qa<|Qh<|qs 4 rfl<|qm rfl ?_
 refine qm rfl ?_
 obtain⟨x2,j,hm⟩:=Qc hm
 refine qv rfl (Hr (c:=p0) (d:=p2) rfl rfl j)<|qm rfl<|Qa<|Xc<|Zv (α:=Nat × BitVec 64 × BitVec 64 × BitVec 64) ([0,1,7]++rg 13 17) (fun⟨n1,a6,a7,a8⟩=>[(0,wv a6),(1,wv a7),(7,wv a8)]) (fun⟨n1,a6,a7,a8⟩ wr=>(Qs (Rq p2) n1 (a6,a7,a8)=some r)∧Kz [] w wr) (fun⟨n1,a6,a7,a8⟩=>n1) ⟨Qy,x2,p1,x1⟩ ?_ ?_ ?_
 · exact Qi
 · exact⟨hm,Kz.refl _ _⟩
 clear hm;rintro⟨n1,a6,a7,a8⟩ w1 ⟨hm,K1⟩
 have z1:=K1.size
 have hb:=Zu hm;clear hm;obtain⟨n1,rfl,hm⟩:=hb
 generalize f:Qs (Rq p2) n1=n at hm
 unfold Rq at hm
 try dsimp only at hm
 refine Qh<|qs 2 rfl<|qm rfl<|qv rfl (Bo (c:=a7) (d:=0#64) rfl rfl)<|Qa<|Zy hm rfl (fun c1 hm=>?_) (fun c1 hm=>?_)
 · refine Zd<|Xh<|Xh<|Zc<|Xa<|qs 2 rfl ?_
   refine qn 2 rfl<|Qa<|Qp ?_
   have X4:=((Gr.refl w).kz K1)
   cases hm
   exact⟨_,_,rfl,Qr rfl (Ql rfl),rfl,X4⟩
 refine qu<|Qh<|Xc<|Qh<|qs 3 rfl ?_
 refine qm rfl<|qv rfl (Qxe (a:=a7) (b:=1#64) rfl rfl)<|qv rfl (Oz (c:=a7 &&& 1#64) (d:=1#64) rfl rfl)<|Qa<|Zy hm rfl (fun c2 hm=>?_) (fun c2 hm=>?_)
 · refine qu<|qg 6 rfl<|qn 2 rfl<|qv rfl (Br (a:=a6) (b:=a6) rfl rfl)<|qm rfl ?_
   obtain⟨k,g,hm⟩:=Qc hm
   refine qv rfl (Hr (c:=a6*a6) (d:=p2) rfl rfl g)<|qm rfl<|Qj<|Xi<|Xa<|qg 3 rfl<|qm rfl ?_
   obtain⟨nn13,hnn13,hm⟩:=Qc hm
   refine qv rfl (Qnj (c:=a7) (b:=(un 1#64)) rfl rfl hnn13)<|qm rfl<|Qj ?_
   have K_3:Kz [] w w1:=K1
   subst f
   exact⟨rfl,⟨n1,k,a7 >>> nn13,a8⟩,Qi,⟨hm,K_3⟩,Nat.lt_succ_self _⟩
 refine qg 6 rfl<|qn 2 rfl<|qv rfl (Br (a:=a8) (b:=a6) rfl rfl)<|qm rfl ?_
 obtain⟨x9,l,hm⟩:=Qc hm
 refine qv rfl (Hr (c:=a8*a6) (d:=p2) rfl rfl l)<|qm rfl<|Qa<|qg 6 rfl<|qn 2 rfl<|qv rfl (Br (a:=a6) (b:=a6) rfl rfl) ?_
 refine qm rfl ?_
 obtain⟨m,h,hm⟩:=Qc hm
 refine qv rfl (Hr (c:=a6*a6) (d:=p2) rfl rfl h)<|qm rfl<|Qj<|Xi<|Xa<|qg 3 rfl<|qm rfl ?_
 obtain⟨nn11,hnn11,hm⟩:=Qc hm
 refine qv rfl (Qnj (c:=a7) (b:=(un 1#64)) rfl rfl hnn11)<|qm rfl<|Qj ?_
 have K_2:Kz [] w w1:=K1
 subst f
 exact⟨rfl,⟨n1,m,a7 >>> nn11,x9⟩,Qi,⟨hm,K_2⟩,Nat.lt_succ_self _⟩
theorem Qsu {p0 r}(hm:Ro p0=some r){w:World}:
 Calls Tryz.prog 90 [.agg (Xz.cs p0).toArray].toArray w fun e w'=>∃ v,e=.returned v∧(v=.int .i64 r∧Gr w w'):=by
 unfold Ro at hm
 refine Xj 44 Tryz.func90 rfl rfl rfl<|qs 2 rfl<|qe rfl (Xq (cs:=Xz.cs p0) rfl rfl) ?_
 rintro _ w1 ⟨b1,rfl,l,g,G1⟩
 have z1:=G1.size
 have m:=g.lt
 refine qm rfl<|Qa<|Qh ?_
 have X3:=((Gr.refl w).trans G1)
 refine qj (β:=Bool) (rg 3 41) (fun a1=>[(43,.bool a1)]) (fun a1 wr=>(Tu a1=some r)∧Kz [] w1 wr) ?_ ?_
 · refine qg 41 rfl<|qv rfl (Qg Gq rfl)<|qv rfl (Qf (v:=wv p0.P) Kv rfl g rfl) ?_
   obtain⟨x2,h,hm⟩:=Qc hm
   refine qe rfl (eC Qi7 rfl (Qke h)) ?_
   rintro _ w3 ⟨rfl,G3⟩
   have z7:=G3.size
   refine qv rfl (Zr rfl)<|Hm hm rfl (Qt rfl) (fun c2 hm=>?_) (fun c2 hm=>?_)
   · refine qn 7 rfl ?_
     refine qn 7 rfl ?_
     refine qn 7 rfl ?_
     refine qn 7 rfl ?_
     refine qn 7 rfl ?_
     refine qm rfl<|Qj ?_
     exact⟨rfl,true,Qi,hm,(Qw.gr G3)⟩
   refine qv rfl (Qg Gs rfl) ?_
   have B9:=(g.gr G3)
   refine qv rfl (Qf (v:=wv p0.Q) Kv rfl B9 rfl) ?_
   obtain⟨x3,i,hm⟩:=Qc hm
   refine qe rfl (eC Qi7 rfl (Qke i)) ?_
   rintro _ w4 ⟨rfl,G4⟩
   have n:=G4.size
   refine qv rfl (Zr rfl)<|qm rfl<|Hm hm rfl (Qt rfl) (fun c3 hm=>?_) (fun c3 hm=>?_)
   · refine qn 7 rfl ?_
     refine qn 7 rfl ?_
     refine qn 7 rfl ?_
     refine qn 7 rfl ?_
     refine qn 2 rfl<|Qj ?_
     have Y1:=Gr.trans G3 G4
     exact⟨rfl,true,Qi,hm,(Qw.gr Y1)⟩
   refine qv rfl (Qg Gq rfl) ?_
   have f:=(B9.gr G4)
   refine qv rfl (Qf (v:=wv p0.P) Kv rfl f rfl)<|qv rfl (Qnn (a:=p0.P) (b:=1#64) rfl rfl)<|qv rfl (Qg Gs rfl)<|qv rfl (Qf (v:=wv p0.Q) Kv rfl f rfl) ?_
   obtain⟨x4,j,hm⟩:=Qc hm
   refine qv rfl (Hr (c:=p0.P-1#64) (d:=p0.Q) rfl rfl j)<|qv rfl (Qgt (c:=x4) (d:=0#64) rfl rfl)<|qm rfl<|Zm hm rfl (Qt rfl) (fun c4 hm=>?_) (fun c4 hm=>?_)
   · refine qn 7 rfl ?_
     refine qn 7 rfl ?_
     refine qn 7 rfl ?_
     refine Qj ?_
     have Y2:=Gr.trans G3 G4
     exact⟨rfl,true,Qi,hm,(Qw.gr Y2)⟩
   refine qv rfl (Qg Me rfl)<|qv rfl (Qf (v:=wv p0.G) Kv rfl f rfl)<|qv rfl (Qgs (c:=p0.G) (d:=2#64) rfl rfl)<|qm rfl<|Zm hm rfl (Qt rfl) (fun c5 hm=>?_) (fun c5 hm=>?_)
   · refine qn 7 rfl ?_
     refine qn 7 rfl ?_
     refine qn 2 rfl<|Qj ?_
     have Y3:=Gr.trans G3 G4
     exact⟨rfl,true,Qi,hm,(Qw.gr Y3)⟩
   refine qv rfl (Qg Me rfl)<|qv rfl (Qf (v:=wv p0.G) Kv rfl f rfl)<|qv rfl (Qg Gq rfl)<|qv rfl (Qf (v:=wv p0.P) Kv rfl f rfl)<|qv rfl (Qgq (c:=p0.G) (d:=p0.P) rfl rfl)<|qm rfl<|Zm hm rfl (Qt rfl) (fun c6 hm=>?_) (fun c6 hm=>?_)
   · refine qn 7 rfl ?_
     refine qn 2 rfl<|Qj ?_
     have Y4:=Gr.trans G3 G4
     exact⟨rfl,true,Qi,hm,(Qw.gr Y4)⟩
   refine qv rfl (Qg Me rfl)<|qv rfl (Qf (v:=wv p0.G) Kv rfl f rfl)<|qv rfl (Qg Gs rfl)<|qv rfl (Qf (v:=wv p0.Q) Kv rfl f rfl)<|qv rfl (Qg Gq rfl)<|qv rfl (Qf (v:=wv p0.P) Kv rfl f rfl) ?_
   obtain⟨x5,k,hm⟩:=Qc hm
   refine qe rfl (eC Qpc rfl (Qsv k)) ?_
   rintro _ w5 ⟨rfl,G5⟩
   have o:=G5.size
   refine qv rfl (Qgt (c:=x5) (d:=1#64) rfl rfl)<|qm rfl<|Qj ?_
   exact⟨rfl,(decide (x5≠1#64)),Qi,hm,(((Qw.gr G3).gr G4).gr G5)⟩
 clear hm;rintro a1 w2 ⟨hm,K2⟩
 have z4:=K2.size
 unfold Tu at hm
 refine Zh hm rfl (fun c1 hm=>?_) (fun c1 hm=>?_)
 · refine qs 1 rfl<|qm rfl<|qb ?_
   have X5:=(X3.kz K2)
   cases hm
   exact⟨_,_,rfl,Qr rfl (Ql rfl),rfl,X5⟩
 refine qu<|qs 1 rfl<|qm rfl<|Qa<|Qp ?_
 have X6:=(X3.kz K2)
 cases hm
 exact⟨_,_,rfl,Qr rfl (Ql rfl),rfl,X6⟩
theorem Qty {p0 r}(hm:Nf p0=some r){w:World}:
 Calls Tryz.prog 48 [.agg (Qo.cs p0).toArray].toArray w fun e w'=>∃ v,e=.returned v∧(v=.bool r∧Gr w w'):=by
 unfold Nf at hm
 refine Xj 45 Tryz.func48 rfl rfl rfl<|qs 2 rfl<|qe rfl (Xq (cs:=Qo.cs p0) rfl rfl) ?_
 rintro _ w1 ⟨b1,rfl,l,f,G1⟩
 have z1:=G1.size
 have m:=f.lt
 refine qm rfl<|Qa<|Qh<|dw [([])] [] (.leaf [(0,10),(1,10),(2,10),(3,10),(4,10),(5,10),(6,10),(7,10),(8,10),(9,10),(10,10),(11,10),(12,10),(13,10),(14,10),(15,10),(16,10),(17,10),(18,10),(19,10),(20,10),(21,10),(22,10),(23,10),(24,10),(25,10),(26,0),(27,10),(28,10),(29,10),(30,10),(31,10),(32,10),(33,10),(34,10),(35,10),(36,10),(37,10),(38,10),(39,10),(40,10),(41,10),(42,10)]) ?_
 intro w2 G2 n
 refine Jp<|dh 0 rfl rfl (fun w hS=>Qg Kj rfl) ?_
 have B3:=(f.gr G2)
 refine dh 0 rfl rfl (fun w hS=>Qf (v:=bv p0.Kind) Zb rfl (Bx.kp B3 hS) rfl)<|dh 0 rfl rfl (fun w hS=>Jz (p:=p0.Kind) (q:=4#8) rfl rfl)<|Nh hm 0 rfl rfl (Kp.refl ([]) w2) (fun w hS=>Qt rfl) (fun c1 hm=>?_) (fun c1 hm=>?_)
 · refine dx 0 rfl rfl<|dx 0 rfl rfl<|dx 0 rfl rfl<|dm 0 rfl rfl<|dm 0 rfl rfl<|dx 0 rfl rfl<|dx 0 rfl rfl ?_
   refine dx 0 rfl rfl<|dm 0 rfl rfl<|dm 0 rfl rfl<|dx 0 rfl rfl<|dx 0 rfl rfl<|dx 0 rfl rfl<|dm 0 rfl rfl ?_
   refine dm 0 rfl rfl<|dx 0 rfl rfl<|dx 0 rfl rfl<|dx 0 rfl rfl<|dm 0 rfl rfl<|dm 0 rfl rfl<|dx 0 rfl rfl ?_
   refine dx 0 rfl rfl<|qy rfl<|dx 0 rfl rfl<|dm 0 rfl rfl<|dm 0 rfl rfl<|dx 0 rfl rfl<|dx 0 rfl rfl ?_
   refine dx 0 rfl rfl<|dx 0 rfl rfl<|dx 0 rfl rfl<|dx 0 rfl rfl<|dx 0 rfl rfl<|dx 0 rfl rfl<|dx 0 rfl rfl ?_
   refine dx 0 rfl rfl<|dx 0 rfl rfl<|dm 0 rfl rfl<|dm 0 rfl rfl<|Qa<|Qp ?_
   have Y1:=Gr.trans G1 G2
   have g:=((Gr.refl w).trans Y1)
   cases hm
   exact⟨_,_,rfl,Qr rfl (Ql rfl),rfl,g⟩
 refine dh 0 rfl rfl (fun w hS=>Qg Ji rfl)<|dh 0 rfl rfl (fun w hS=>Qf (v:=.int .i64 p0.Depth) Qe rfl (Bx.kp B3 hS) rfl)<|dh 0 rfl rfl (fun w hS=>Yq (a:=p0.Depth) (b:=0) rfl rfl)<|dm 0 rfl rfl<|Nh hm 0 rfl rfl (Kp.refl ([]) w2) (fun w hS=>Qt rfl) (fun c2 hm=>?_) (fun c2 hm=>?_)
 · refine dx 0 rfl rfl<|dx 0 rfl rfl<|dx 0 rfl rfl<|dm 0 rfl rfl<|dm 0 rfl rfl<|dx 0 rfl rfl<|dx 0 rfl rfl ?_
   refine dx 0 rfl rfl<|dm 0 rfl rfl<|dm 0 rfl rfl<|dx 0 rfl rfl<|dx 0 rfl rfl<|dx 0 rfl rfl<|dm 0 rfl rfl ?_
   refine dm 0 rfl rfl<|dx 0 rfl rfl<|dx 0 rfl rfl<|qy rfl<|dx 0 rfl rfl<|dm 0 rfl rfl<|dm 0 rfl rfl ?_
   refine dx 0 rfl rfl<|dx 0 rfl rfl<|dx 0 rfl rfl<|dx 0 rfl rfl<|dx 0 rfl rfl<|dx 0 rfl rfl<|dx 0 rfl rfl ?_
   refine dx 0 rfl rfl<|dx 0 rfl rfl<|dx 0 rfl rfl<|dx 0 rfl rfl<|dm 0 rfl rfl<|dm 0 rfl rfl<|Qa ?_
   refine Qp ?_
   have Y2:=Gr.trans G1 G2
   have h:=((Gr.refl w).trans Y2)
   cases hm
   exact⟨_,_,rfl,Qr rfl (Ql rfl),rfl,h⟩
 refine dh 0 rfl rfl (fun w hS=>Qg Ji rfl)<|dh 0 rfl rfl (fun w hS=>Qf (v:=.int .i64 p0.Depth) Qe rfl (Bx.kp B3 hS) rfl)<|dh 0 rfl rfl (fun w hS=>Yr (a:=p0.Depth) (b:=6) rfl rfl)<|dm 0 rfl rfl<|Nh hm 0 rfl rfl (Kp.refl ([]) w2) (fun w hS=>Qt rfl) (fun c3 hm=>?_) (fun c3 hm=>?_)
 · refine dx 0 rfl rfl<|dx 0 rfl rfl<|dx 0 rfl rfl<|dm 0 rfl rfl<|dm 0 rfl rfl<|dx 0 rfl rfl<|dx 0 rfl rfl ?_
   refine dx 0 rfl rfl<|dm 0 rfl rfl<|dm 0 rfl rfl<|dx 0 rfl rfl<|dx 0 rfl rfl<|qy rfl<|dx 0 rfl rfl ?_
   refine dm 0 rfl rfl<|dm 0 rfl rfl<|dx 0 rfl rfl<|dx 0 rfl rfl<|dx 0 rfl rfl<|dx 0 rfl rfl<|dx 0 rfl rfl ?_
   refine dx 0 rfl rfl<|dx 0 rfl rfl<|dx 0 rfl rfl<|dx 0 rfl rfl<|dx 0 rfl rfl<|dx 0 rfl rfl<|dm 0 rfl rfl ?_
   refine dm 0 rfl rfl<|Qa<|Qp ?_
   have Y3:=Gr.trans G1 G2
   have i:=((Gr.refl w).trans Y3)
   cases hm
   exact⟨_,_,rfl,Qr rfl (Ql rfl),rfl,i⟩
 refine dh 0 rfl rfl (fun w hS=>Qg Tl rfl)<|dh 0 rfl rfl (fun w hS=>Qf (v:=.int .i64 p0.Degree) Qe rfl (Bx.kp B3 hS) rfl)<|dh 0 rfl rfl (fun w hS=>Yq (a:=p0.Degree) (b:=1) rfl rfl)<|dm 0 rfl rfl<|Nh hm 0 rfl rfl (Kp.refl ([]) w2) (fun w hS=>Qt rfl) (fun c4 hm=>?_) (fun c4 hm=>?_)
 · refine dx 0 rfl rfl<|dx 0 rfl rfl<|dx 0 rfl rfl<|dm 0 rfl rfl<|dm 0 rfl rfl<|dx 0 rfl rfl<|dx 0 rfl rfl ?_
   refine qy rfl<|dx 0 rfl rfl<|dm 0 rfl rfl<|dm 0 rfl rfl<|dx 0 rfl rfl<|dx 0 rfl rfl<|dx 0 rfl rfl ?_
   refine dx 0 rfl rfl<|dx 0 rfl rfl<|dx 0 rfl rfl<|dx 0 rfl rfl<|dx 0 rfl rfl<|dx 0 rfl rfl<|dx 0 rfl rfl ?_
   refine dx 0 rfl rfl<|dm 0 rfl rfl<|dm 0 rfl rfl<|Qa<|Qp ?_
   have Y4:=Gr.trans G1 G2
   have X9:=((Gr.refl w).trans Y4)
   cases hm
   exact⟨_,_,rfl,Qr rfl (Ql rfl),rfl,X9⟩
 refine dh 0 rfl rfl (fun w hS=>Qg Tl rfl)<|dh 0 rfl rfl (fun w hS=>Qf (v:=.int .i64 p0.Degree) Qe rfl (Bx.kp B3 hS) rfl)<|dh 0 rfl rfl (fun w hS=>Yr (a:=p0.Degree) (b:=8) rfl rfl)<|dm 0 rfl rfl<|Nh hm 0 rfl rfl (Kp.refl ([]) w2) (fun w hS=>Qt rfl) (fun c5 hm=>?_) (fun c5 hm=>?_)
 · refine dx 0 rfl rfl<|dx 0 rfl rfl<|qy rfl<|dx 0 rfl rfl<|dm 0 rfl rfl<|dm 0 rfl rfl<|dx 0 rfl rfl ?_
   refine dx 0 rfl rfl<|dx 0 rfl rfl<|dx 0 rfl rfl<|dx 0 rfl rfl<|dx 0 rfl rfl<|dx 0 rfl rfl<|dx 0 rfl rfl ?_
   refine dx 0 rfl rfl<|dx 0 rfl rfl<|dx 0 rfl rfl<|dm 0 rfl rfl<|dm 0 rfl rfl<|Qa<|Qp ?_
   have Y5:=Gr.trans G1 G2
   have X8:=((Gr.refl w).trans Y5)
   cases hm
   exact⟨_,_,rfl,Qr rfl (Ql rfl),rfl,X8⟩
 refine dh 0 rfl rfl (fun w hS=>Qg Mf rfl)<|dh 0 rfl rfl (fun w hS=>Eh (vs:=Xz.cs p0.Group) Tc rfl (Bx.kp B3 hS) rfl rfl) ?_
 obtain⟨x1,j,hm⟩:=Qc hm
 refine qz [] rfl (eC Qqh rfl (Qsu j)) ⟨fun _=>Qn,trivial⟩ ?_
 rintro _ w3 ⟨rfl,G3⟩
 have z4:=G3.size
 refine kG G3 ?_
 have S5:=((Kp.refl ([]) w2).gr G3)
 refine qh 0 rfl rfl S5 (fun w hS=>Xv (a:=x1) (b:=0) rfl rfl)<|dn 0 rfl rfl S5<|Nh hm 0 rfl rfl S5 (fun w hS=>Qt rfl) (fun c6 hm=>?_) (fun c6 hm=>?_)
 · refine qx 0 rfl rfl S5<|qx 0 rfl rfl S5<|qx 0 rfl rfl S5<|qx 0 rfl rfl S5<|qx 0 rfl rfl S5<|qx 0 rfl rfl S5<|qx 0 rfl rfl S5 ?_
   refine qx 0 rfl rfl S5<|qx 0 rfl rfl S5<|qx 0 rfl rfl S5<|qx 0 rfl rfl S5<|dn 0 rfl rfl S5<|dn 0 rfl rfl S5<|Qa ?_
   refine Qp ?_
   have X7:=((((Gr.refl w).trans G1).trans G2).trans G3)
   cases hm
   exact⟨_,_,rfl,Qr rfl (Ql rfl),rfl,X7⟩
 refine qh 0 rfl rfl S5 (fun w hS=>Qg Mf rfl)<|qh 0 rfl rfl S5 (fun w hS=>Qg Gs rfl)<|qh 0 rfl rfl S5 (fun w hS=>Qf (v:=wv p0.Group.Q) Kv rfl (Bx.kp B3 hS) rfl)<|qh 0 rfl rfl S5 (fun w hS=>Qg Ji rfl)<|qh 0 rfl rfl S5 (fun w hS=>Qf (v:=.int .i64 p0.Depth) Qe rfl (Bx.kp B3 hS) rfl) ?_
 obtain⟨nn2,hnn2,hm⟩:=Qc hm
 refine qh 0 rfl rfl S5 (fun w hS=>Hi (a:=1) (b:=p0.Depth) rfl rfl hnn2)<|qh 0 rfl rfl S5 (fun w hS=>Qg Tl rfl)<|qh 0 rfl rfl S5 (fun w hS=>Qf (v:=.int .i64 p0.Degree) Qe rfl (Bx.kp B3 hS) rfl)<|qh 0 rfl rfl S5 (fun w hS=>Xn (k:=.i64) (a:=Xr 1 nn2) (b:=p0.Degree) rfl rfl)<|qh 0 rfl rfl S5 (fun w hS=>Ef Qhs rfl)<|qh 0 rfl rfl S5 (fun w hS=>Bo (c:=p0.Group.Q) (d:=wd (Qb ((Xr 1 nn2)+p0.Degree))) rfl rfl)<|dn 0 rfl rfl S5 ?_
 refine dn 0 rfl rfl S5<|Qa<|Qp ?_
 have X6:=((((Gr.refl w).trans G1).trans G2).trans G3)
 cases hm
 exact⟨_,_,rfl,Qr rfl (Ql rfl),rfl,X6⟩
theorem Qtx {p0 r}(hm:Mw p0=some r){w:World}:
 Calls Tryz.prog 30 [.agg (Qo.cs p0).toArray].toArray w fun e w'=>∃ v,e=.returned v∧(v=.int .i64 r∧Gr w w'):=by
 unfold Mw at hm
 refine Xj 6 Tryz.func30 rfl rfl rfl<|qs 2 rfl<|qe rfl (Xq (cs:=Qo.cs p0) rfl rfl) ?_
 rintro _ w1 ⟨b1,rfl,c,a,G1⟩
 have z1:=G1.size
 have d:=a.lt
 refine qm rfl<|Qa<|Qh<|qs 3 rfl<|qv rfl (Xm Zj rfl a rfl) ?_
 obtain⟨x1,b,hm⟩:=Qc hm
 refine qe rfl (eC Qpz rfl (Qty b)) ?_
 rintro _ w2 ⟨rfl,G2⟩
 have z3:=G2.size
 refine qv rfl (Zr rfl)<|Qa<|Zh hm rfl (fun c1 hm=>?_) (fun c1 hm=>?_)
 · refine qs 1 rfl<|qm rfl<|qb ?_
   have X4:=(((Gr.refl w).trans G1).trans G2)
   cases hm
   exact⟨_,_,rfl,Qr rfl (Ql rfl),rfl,X4⟩
 refine qu<|qs 1 rfl<|qm rfl<|Qa<|Qp ?_
 have X5:=(((Gr.refl w).trans G1).trans G2)
 cases hm
 exact⟨_,_,rfl,Qr rfl (Ql rfl),rfl,X5⟩
theorem Qdu {p0 r}(hm:Re p0=some r){w:World}:
 Calls Tryz.prog 127 [.agg (Xl.cs p0).toArray].toArray w fun e w'=>∃ v,e=.returned v∧(v=.int .i64 r∧Gr w w'):=by
 unfold Re at hm
 refine Xj 6 Tryz.func127 rfl rfl rfl<|qs 2 rfl<|qe rfl (Xq (cs:=Xl.cs p0) rfl rfl) ?_
 rintro _ w1 ⟨b1,rfl,d,c,G1⟩
 have z1:=G1.size
 have f:=c.lt
 refine qm rfl<|qd 4 rfl<|qv rfl (Qg Qj9 rfl)<|qv rfl (Qf (v:=.int .i64 p0.depth) Qe rfl c rfl) ?_
 obtain⟨nn1,hnn1,hm⟩:=Qc hm
 refine qv rfl (Hi (a:=1) (b:=p0.depth) rfl rfl hnn1)<|qm rfl<|Qa<|Qp ?_
 have X3:=((Gr.refl w).trans G1)
 cases hm
 exact⟨_,_,rfl,Qr rfl (Ql rfl),rfl,X3⟩
theorem Qhp {p0 p1 r}(hm:Qaf p0 p1=some r){w:World}:
 Calls Tryz.prog 147 [.agg (Xl.cs p0).toArray,.int .i64 p1].toArray w fun e w'=>∃ v,e=.returned v∧(v=.bool r∧Gr w w'):=by
 unfold Qaf at hm
 refine Xj 14 Tryz.func147 rfl rfl rfl<|qs 2 rfl<|qe rfl (Xq (cs:=Xl.cs p0) rfl rfl) ?_
 rintro _ w1 ⟨b1,rfl,f,c,G1⟩
 have z1:=G1.size
 have g:=c.lt
 refine qm rfl<|qd 10 rfl<|qm rfl<|qv rfl (Yq (a:=p1) (b:=1) rfl rfl)<|Jo hm rfl (Qt rfl) (fun c1 hm=>?_) (fun c1 hm=>?_)
 · refine qn 7 rfl ?_
   refine Qa<|Qp ?_
   have X5:=((Gr.refl w).trans G1)
   cases hm
   exact⟨_,_,rfl,Qr rfl (Ql rfl),rfl,X5⟩
 refine qm rfl<|qv rfl (Xm Jy rfl c rfl) ?_
 obtain⟨x1,d,hm⟩:=Qc hm
 refine qe rfl (eC Qe1 rfl (Qdu d)) ?_
 rintro _ w2 ⟨rfl,G2⟩
 have z3:=G2.size
 refine qv rfl (Kb (k:=.i64) (a:=2) (b:=x1) rfl rfl)<|qv rfl (Zo (a:=p1) (b:=Qb (2*x1)) rfl rfl)<|qn 2 rfl<|Qa<|Qp ?_
 have X4:=(((Gr.refl w).trans G1).trans G2)
 cases hm
 exact⟨_,_,rfl,Qr rfl (Ql rfl),rfl,X4⟩
theorem Fv {p0 r}(hm:Dp p0=some r){w:World}:
 Calls Tryz.prog 129 [.int .i64 p0].toArray w fun e w'=>∃ v,e=.returned v∧(v=.int .i64 r∧Gr w w'):=by
 unfold Dp at hm
 refine Xj 7 Tryz.func129 rfl rfl rfl<|qs 1 rfl<|qm rfl<|qd 5 rfl ?_
 refine qm rfl<|qv rfl (Ef Qow rfl)<|qe rfl (eC Qp6 rfl (Qrs (un (wd p0)) (Bn _) (by have:=Qgj (wd p0);omega) _)) ?_
 rintro _ w1 ⟨rfl,G1⟩
 have z1:=G1.size
 refine qv rfl (Js (k:=.i64) (a:=lg (un (wd p0))) (b:=1) rfl rfl)<|qm rfl<|Qa<|Qp ?_
 have X2:=((Gr.refl w).trans G1)
 cases hm
 exact⟨_,_,rfl,Qr rfl (Ql rfl),rfl,X2⟩
theorem Qoq {p0 p1 r}(hm:Qdr p0 p1=some r){w:World}:
 Calls Tryz.prog 148 [.int .i64 p0,.int .i64 p1].toArray w fun e w'=>∃ v,e=.returned v∧(v=.bool r∧Gr w w'):=by
 unfold Qdr at hm
 refine Xj 27 Tryz.func148 rfl rfl rfl<|qs 1 rfl<|qm rfl<|Qa<|Qh<|qj (β:=Bool) (rg 5 13) (fun a1=>[(17,.bool a1)]) (fun a1 wr=>(Ew p0 p1 a1=some r)∧Kz [] w wr) ?_ ?_
 · refine qg 13 rfl<|qm rfl<|qv rfl (Zo (a:=p0) (b:=1) rfl rfl)<|Zm hm rfl (Qt rfl) (fun c2 hm=>?_) (fun c2 hm=>?_)
   · refine qn 7 rfl ?_
     refine qn 3 rfl<|Qj ?_
     exact⟨rfl,true,Qi,hm,Qw⟩
   refine qm rfl<|qv rfl (Zo (a:=p1) (b:=1) rfl rfl)<|qm rfl<|Zm hm rfl (Qt rfl) (fun c3 hm=>?_) (fun c3 hm=>?_)
   · refine qn 6 rfl<|Qj ?_
     exact⟨rfl,true,Qi,hm,Qw⟩
   refine qm rfl ?_
   obtain⟨x5,c,hm⟩:=Qc hm
   refine qe rfl (eC Rf rfl (Fv c)) ?_
   rintro _ w4 ⟨rfl,G4⟩
   have z8:=G4.size
   refine qm rfl ?_
   obtain⟨x6,d,hm⟩:=Qc hm
   refine qe rfl (eC Rf rfl (Fv d)) ?_
   rintro _ w5 ⟨rfl,G5⟩
   have z9:=G5.size
   refine qv rfl (Zo (a:=x5) (b:=x6) rfl rfl)<|qm rfl<|Qj ?_
   exact⟨rfl,(decide (x5<x6)),Qi,hm,((Qw.gr G4).gr G5)⟩
 clear hm;rintro a1 w1 ⟨hm,K1⟩
 have z1:=K1.size
 unfold Ew at hm
 refine Zh hm rfl (fun c1 hm=>?_) (fun c1 hm=>?_)
 · refine qs 1 rfl<|qm rfl<|qb ?_
   have X2:=((Gr.refl w).kz K1)
   cases hm
   exact⟨_,_,rfl,Qr rfl (Ql rfl),rfl,X2⟩
 refine qu<|qs 10 rfl<|qn 2 rfl ?_
 obtain⟨x2,f,hm⟩:=Qc hm
 refine qe rfl (eC Rf rfl (Fv f)) ?_
 rintro _ w2 ⟨rfl,G2⟩
 have z3:=G2.size
 refine qm rfl ?_
 obtain⟨x3,g,hm⟩:=Qc hm
 refine qe rfl (eC Rf rfl (Fv g)) ?_
 rintro _ w3 ⟨rfl,G3⟩
 have z4:=G3.size
 refine qv rfl (Js (k:=.i64) (a:=x2) (b:=x3) rfl rfl) ?_
 obtain⟨nn4,hnn4,hm⟩:=Qc hm
 refine qv rfl (Qdb (a:=p0) (b:=(Qb (x2-x3))) rfl rfl hnn4)<|qm rfl<|qv rfl (Xv (a:=Ns p0 nn4) (b:=p1) rfl rfl)<|qm rfl<|Qa<|Qp ?_
 have X5:=((((Gr.refl w).kz K1).trans G2).trans G3)
 cases hm
 exact⟨_,_,rfl,Qr rfl (Ql rfl),rfl,X5⟩
theorem Qdv {p0 p1 r}(hm:Gn p0 p1=some r){w:World}:
 Calls Tryz.prog 78 [.agg (Xl.cs p0).toArray,.int .i64 p1].toArray w fun e w'=>∃ v,e=.returned v∧(v=.bool r∧Gr w w'):=by
 unfold Gn at hm
 refine Xj 11 Tryz.func78 rfl rfl rfl<|qs 2 rfl<|qe rfl (Xq (cs:=Xl.cs p0) rfl rfl) ?_
 rintro _ w1 ⟨b1,rfl,g,c,G1⟩
 have z1:=G1.size
 have h:=c.lt
 refine qm rfl<|Qa<|Qh<|dw [([])] [] (.leaf [(0,10),(2,10),(3,10),(1,0),(4,10),(5,10),(6,10)]) ?_
 intro w2 G2 i
 refine Jp<|dm 0 rfl rfl<|dh 0 rfl rfl (fun w hS=>Qg Ae rfl) ?_
 have B3:=(c.gr G2)
 refine dh 0 rfl rfl (fun w hS=>Qf (v:=.int .i64 p0.stride) Qe rfl (Bx.kp B3 hS) rfl) ?_
 obtain⟨x1,d,hm⟩:=Qc hm
 refine qz [] rfl (eC Rf rfl (Fv d)) ⟨fun _=>Qn,trivial⟩ ?_
 rintro _ w3 ⟨rfl,G3⟩
 have z4:=G3.size
 refine kG G3 ?_
 obtain⟨x2,f,hm⟩:=Qc hm
 have S5:=((Kp.refl ([]) w2).gr G3)
 refine qh 0 rfl rfl S5 (fun w hS=>Qda (a:=x1) (b:=p0.stride) rfl rfl f)<|qh 0 rfl rfl S5 (fun w hS=>Xv (a:=x2) (b:=0) rfl rfl)<|dn 0 rfl rfl S5<|Qa<|Qp ?_
 have X6:=((((Gr.refl w).trans G1).trans G2).trans G3)
 cases hm
 exact⟨_,_,rfl,Qr rfl (Ql rfl),rfl,X6⟩
theorem Qhm {p0 p1 r}(hm:Ey p0 p1=some r){w:World}:
 Calls Tryz.prog 99 [.int .i64 p0,.int .i64 p1].toArray w fun e w'=>∃ v,e=.returned v∧(∃ bc0 bc1,v=.func (.func 149) #[] [.pointer (some ⟨bc0,0,none⟩),.pointer (some ⟨bc1,0,none⟩)].toArray∧Bx w' bc0 149 ([.int .i64 r.1])∧(w.heap.size≤bc0)∧Bx w' bc1 149 ([.int .i64 r.2])∧(w.heap.size≤bc1)∧Gr w w'):=by
 unfold Ey at hm
 refine Xj 6 Tryz.func99 rfl rfl rfl<|qs 3 rfl<|qe rfl (Xq (cs:=[.int .i64 p0]) rfl rfl) ?_
 rintro _ w1 ⟨b1,rfl,c,a,G1⟩
 have z1:=G1.size
 have f:=a.lt
 refine qe rfl (Xq (cs:=[.int .i64 p1]) rfl rfl) ?_
 rintro _ w2 ⟨b2,rfl,d,b,G2⟩
 have z3:=G2.size
 have g:=b.lt
 refine qm rfl<|qd 2 rfl<|qv rfl (Tx rfl rfl)<|qm rfl<|Qa ?_
 refine Qp ?_
 have B5:=(a.gr G2)
 have X6:=(((Gr.refl w).trans G1).trans G2)
 cases hm
 exact⟨_,_,rfl,Qr rfl (Ql rfl),b1,b2,rfl,B5,by omega,b,by omega,X6⟩
theorem Qae {p0 p1 r}(hm:Li p0 p1=some r){w:World}:
 Calls Tryz.prog 98 [.int .i64 p0,.int .i64 p1].toArray w fun e w'=>∃ v,e=.returned v∧(v=.int .i64 r∧Gr w w'):=by
 unfold Li at hm
 refine Xj 13 Tryz.func98 rfl rfl rfl<|qs 1 rfl<|qm rfl<|qd 9 rfl ?_
 refine qn 2 rfl ?_
 obtain⟨x1,c,hm⟩:=Qc hm
 refine qe rfl (eC Rf rfl (Fv c)) ?_
 rintro _ w1 ⟨rfl,G1⟩
 have z1:=G1.size
 refine qm rfl ?_
 obtain⟨x2,d,hm⟩:=Qc hm
 refine qe rfl (eC Rf rfl (Fv d)) ?_
 rintro _ w2 ⟨rfl,G2⟩
 have z2:=G2.size
 refine qv rfl (Js (k:=.i64) (a:=x1) (b:=x2) rfl rfl)<|qv rfl (Js (k:=.i64) (a:=Qb (x1-x2)) (b:=1) rfl rfl) ?_
 obtain⟨nn3,hnn3,hm⟩:=Qc hm
 refine qv rfl (Qdb (a:=p1) (b:=(Qb ((Qb (x1-x2))-1))) rfl rfl hnn3)<|qm rfl<|Qa<|Qp ?_
 have X3:=(((Gr.refl w).trans G1).trans G2)
 cases hm
 exact⟨_,_,rfl,Qr rfl (Ql rfl),rfl,X3⟩
theorem Qhl (p1:Int)(p2:Int)(bp1:Nat)(bp2:Nat)(xs:List Int)(hm:Ez p1 p2=some xs)(w0:World)(hbp1:Bx w0 bp1 149 ([.int .i64 p1]))(hbp2:Bx w0 bp2 149 ([.int .i64 p2])):
 IT Tryz.prog 149 [.pointer (some ⟨bp1,0,none⟩),.pointer (some ⟨bp2,0,none⟩)] (xs.map (fun(x:Int)=>([.int .i64 x]:List Value))) ([bp1]++[bp2]) w0:=by
 intro l J Jx w fp hG hJ hJx hcap h0 hY
 have c1:=Bx.gr hbp1 hG
 have A:=c1.lt
 have o:bp1∉fp:=hcap _ (by simp)
 have c4:=Bx.gr hbp2 hG
 have B:=c4.lt
 have p:bp2∉fp:=hcap _ (by simp)
 have hd:=Qam xs
 unfold Ez at hm
 refine Xj 16 Tryz.func149 rfl rfl rfl<|qs 2 rfl<|qv rfl (Qf (v:=.int .i64 p1) Yg rfl c1 rfl)<|qm rfl<|Qa<|Xc ?_
 refine Zv (α:=Nat × Int × Nat × List Nat × List Int) ([4]++rg 6 10) (fun⟨n1,a2,kk,fpl,rl⟩=>[(4,.int .i64 a2)]) (fun⟨n1,a2,kk,fpl,rl⟩ wr=>(Qs (Fz p2) n1 a2=some rl)∧Dr xs kk rl∧J kk fpl wr∧(∀ c∈fpl,c∈fp∨w.heap.size≤c)∧Kp fp w wr∧Bx wr bp1 149 ([.int .i64 p1])∧Bx wr bp2 149 ([.int .i64 p2])∧bp1∉fpl∧bp2∉fpl∧True) (fun⟨n1,a2,kk,fpl,rl⟩=>n1) ⟨Qy,p1,0,fp,xs⟩ ?_ ?_ ?_
 · exact Qi
 · exact⟨hm,hd,h0,(fun c hc=>Or.inl hc),(Kp.refl fp w),c1,c4,o,p,trivial⟩
 clear hm;rintro⟨n1,a2,j,fpl1,rl1⟩ w1 ⟨hm,dl1,JLw1,sl1,KLw1,f,d,g,h,-⟩
 have z7:=KLw1.size
 have C:=f.lt
 have D:=d.lt
 have hb:=Zu hm;clear hm;obtain⟨n1,rfl,hm⟩:=hb
 generalize k:Qs (Fz p2) n1=z at hm
 unfold Fz at hm
 try dsimp only at hm
 refine Qh<|qs 3 rfl<|qm rfl<|qv rfl (Qf (v:=.int .i64 p2) Yg rfl d rfl)<|qv rfl (Ke (a:=a2) (b:=p2) rfl rfl)<|Qa ?_
 refine Zy hm rfl (fun c1 hm=>?_) (fun c1 hm=>?_)
 · refine Zd<|Xh<|Xh<|Zc ?_
   have he:=Option.some.inj hm
   have hl:=Dr.last (c:=(fun(x:Int)=>([.int .i64 x]:List Value))) dl1 he.symm
   refine⟨_,_,rfl,Ta rfl,KLw1,.inl ⟨_,sl1,?_⟩⟩
   rw[←hl];exact JLw1
 refine qu<|Xc<|qs 4 rfl<|qm rfl<|qv rfl (Qf (v:=.int .i64 p2) Yg rfl d rfl) ?_
 obtain⟨x3,q,hm⟩:=Qc hm
 refine qe rfl (eC Qas rfl (Qae q)) ?_
 rintro _ w2 ⟨rfl,G2⟩
 have E:=G2.size
 refine qm rfl<|qd 4 rfl<|qn 2 rfl ?_
 have r:=(hJ.gr JLw1 G2)
 have KI13:Kp fp w w2:=(KLw1.gr G2)
 obtain⟨rr11,hm,he11⟩:=Ei hm
 have i:=Dr.at dl1 he11
 have hd11:=Dr.next dl1 he11
 have s:=(f.gr G2)
 have t:=(d.gr G2)
 refine qe rfl (Cz rfl rfl (hY _ _ _ _ (Tp i) r KI13 sl1)) ?_
 rintro _ w3 ⟨bb,rfl,KF11,e,hg11,hJb⟩
 have F:=KF11.size
 have sub11:∀ c∈e,c∈fp∨w.heap.size≤c:=Tw sl1 hg11 (by omega)
 have m:=Jt hg11 g (by omega)
 have n:=Jt hg11 h (by omega)
 cases bb
 · have Jy11:Jx (j+1) e w3:=hJb
   refine qv rfl (Zr rfl)<|Qa<|Nt rfl<|Qp<|Zk<|Xp<|Zk ?_
   have KI19:Kp fp w w3:=(KI13.trans KF11 sl1)
   exact⟨_,_,rfl,Ta rfl,KI19,.inr ⟨_,_,sub11,(by rw[List.length_map];exact(List.getElem?_eq_some_iff.1 i).1),Jy11⟩⟩
 have Jy11:J (j+1) e w3:=hJb
 refine qv rfl (Zr rfl)<|Qa<|Dj rfl<|Jb<|Xi ?_
 have KI20:Kp fp w w3:=(KI13.trans KF11 sl1)
 have u:=(Bx.kp s KF11 g)
 have y:=(Bx.kp t KF11 h)
 subst k
 exact⟨rfl,⟨n1,x3,(j+1),e,rr11⟩,Qi,⟨hm,hd11,Jy11,sub11,KI20,u,y,m,n,trivial⟩,Nat.lt_succ_self _⟩
theorem Qop {g h f bp0_0 bp0_1 r}(hm:Qac g h f=some r){w:World}(hbp0_0:Bx w bp0_0 149 ([.int .i64 g]))(hbp0_1:Bx w bp0_1 149 ([.int .i64 h])):
 Calls Tryz.prog 128 [.func (.func 149) [].toArray [.pointer (some ⟨bp0_0,0,none⟩),.pointer (some ⟨bp0_1,0,none⟩)].toArray,.func (.func 78) [.agg (Xl.cs f).toArray].toArray [].toArray].toArray w fun e w'=>∃ v,e=.returned v∧(v=.int .i64 r∧Gr w w'):=by
 have aa:=hbp0_0.lt
 have ab:=hbp0_1.lt
 unfold Qac at hm
 refine Xj 12 Tryz.func128 rfl rfl rfl<|qs 2 rfl<|qe rfl (Xq rfl rfl) ?_
 rintro _ w1 ⟨b1,rfl,Q,t,G1⟩
 have z3:=G1.size
 have ac:=t.lt
 refine qe rfl (Zz (cs:=[.int .i64 0]) Qdi rfl) ?_
 rintro _ w2 ⟨b2,rfl,R,u,G2⟩
 have z5:=G2.size
 have ad:=u.lt
 refine Qa<|Qh<|qs 1 rfl<|qm rfl<|Qa<|Xc ?_
 have B7:=((hbp0_0.gr G1).gr G2)
 have B8:=((hbp0_1.gr G1).gr G2)
 obtain⟨l1,y,hm⟩:=Qc hm
 have X9:=(((Gr.refl w).trans G1).trans G2)
 have z:=(t.gr G2)
 refine Oy (gf:=149) rfl Qi9 (Qhl g h _ _ _ y _ B7 B8) (by intro x hx;obtain⟨a,_,rfl⟩:=List.mem_map.1 hx;rfl) rfl _ _ ([b2]) (Bk (α:=Int) (fun a3 rk=>Ku (Cn f) Ev (List.drop rk l1) a3=some r) (fun a3=>([b2])) (fun a3 W=>Bx W b2 149 ([.int .i64 a3])∧True) (by rintro a3 W ⟨F0,_⟩ b hb;have q0:=F0.lt;replace hb:b∈([b2]):=hb;simp only[List.mem_cons,List.mem_append,Xt,List.not_mem_nil,or_false,false_or,not_or,ne_eq,List.nil_append,List.cons_append,true_and,and_true,false_and,and_false,not_true_eq_false,not_false_eq_true,or_true,true_or] at hb;omega) (by rintro a3 W W' ⟨F0,_⟩ E hs;replace hs:∀ b∈([b2]),W'.heap[b]? = W.heap[b]? := hs;exact⟨(hs _ (by simp)).trans F0,trivial⟩)) (fun c=>(Qm6 (c=.ret) (Bk (α:=Int) (fun a3 rk=>Qdq a3=some r) (fun a3=>([b2])) (fun a3 W=>Bx W b2 149 ([.int .i64 a3])∧True) (by rintro a3 W ⟨F0,_⟩ b hb;have q0:=F0.lt;replace hb:b∈([b2]):=hb;simp only[List.mem_cons,List.mem_append,Xt,List.not_mem_nil,or_false,false_or,not_or,ne_eq,List.nil_append,List.cons_append,true_and,and_true,false_and,and_false,not_true_eq_false,not_false_eq_true,or_true,true_or] at hb;omega) (by rintro a3 W W' ⟨F0,_⟩ E hs;replace hs:∀ b∈([b2]),W'.heap[b]? = W.heap[b]? := hs;exact⟨(hs _ (by simp)).trans F0,trivial⟩)))) (by intro b hb;simp only[List.mem_cons,List.mem_append,Xt,List.not_mem_nil,or_false,false_or,not_or,ne_eq,List.nil_append,List.cons_append,true_and,and_true,false_and,and_false,not_true_eq_false,not_false_eq_true,or_true,true_or] at hb ⊢;omega) ⟨0,hm,rfl,u,trivial⟩ ?_ ?_ ?_
 · rintro l rk x fp w3 hl hx _ K3 hF hln Xy
   clear hm
   obtain⟨e4,hxe,rfl⟩:=map_some hx
   have A:Kz [(1,b2)] w2 w3:=Gv K3 (by intro k hk;simp only[Ze,and_true,List.mem_cons,List.mem_append,Xt,List.not_mem_nil,or_false,false_or,not_or,ne_eq,List.nil_append,List.cons_append,true_and,and_true,false_and,and_false,not_true_eq_false,not_false_eq_true,or_true,true_or] at hk ⊢;omega)
   have ae:=K3.size
   refine qg 1 rfl<|qm rfl<|Qj<|⟨rfl,(Gr.refl _),?_⟩
   rintro w4 M4 ⟨a3,hm,rfl,d,-⟩
   have af:=M4.size
   have S:=d.lt
   replace hm:=Am hm hxe
   generalize hnx1:Ku (Cn f) Ev (List.drop (rk+1) l1)=ag at hm
   unfold Cn at hm
   try dsimp only at hm
   refine Xc<|qs 3 rfl ?_
   have B:=((z.kz A).md M4)
   refine qv rfl (Qf Qsw rfl B rfl)<|qm rfl ?_
   obtain⟨x5,C,hm⟩:=Qc hm
   refine qe rfl (Gp Qea rfl rfl (Qdv C)) ?_
   rintro _ w5 ⟨rfl,G5⟩
   have ah:=G5.size
   refine Qa<|Zh hm rfl (fun c1 hm=>?_) (fun c1 hm=>?_)
   · refine qs 2 rfl<|qm rfl ?_
     have D:=(d.gr G5)
     refine qe rfl (Zs (cs':=[.int .i64 e4]) (Yg).siz rfl rfl rfl D rfl rfl) ?_
     rintro _ w6 ⟨F,M6⟩
     have ai:=M6.size
     refine Qa<|Qp<|Zk ?_
     have K_18:Kz [(1,b2)] w4 w6:=((Kz.gr (Kz.refl _ _) G5).md M6)
     have Kq18:Kp ([b2]) w4 w6:=Rj K_18 (by intro k hk;simp only[Ze,and_true,List.mem_cons,List.mem_append,Xt,List.not_mem_nil,or_false,false_or,not_or,ne_eq,List.nil_append,List.cons_append,true_and,and_true,false_and,and_false,not_true_eq_false,not_false_eq_true,or_true,true_or] at hk ⊢;omega)
     exact⟨Kq18,([b2]),(by intro c hc;simp only[List.mem_cons,List.mem_append,Xt,List.not_mem_nil,or_false,false_or,not_or,ne_eq,List.nil_append,List.cons_append,true_and,and_true,false_and,and_false,not_true_eq_false,not_false_eq_true,or_true,true_or] at hc ⊢;omega),⟨rfl,e4,hm,rfl,F,trivial⟩⟩
   refine Jb<|Xi ?_
   have G:=(d.gr G5)
   have K_19:Kz [(1,b2)] w4 w5:=(Kz.gr (Kz.refl _ _) G5)
   have Kq19:Kp ([b2]) w4 w5:=Rj K_19 (by intro k hk;simp only[Ze,and_true,List.mem_cons,List.mem_append,Xt,List.not_mem_nil,or_false,false_or,not_or,ne_eq,List.nil_append,List.cons_append,true_and,and_true,false_and,and_false,not_true_eq_false,not_false_eq_true,or_true,true_or] at hk ⊢;omega)
   subst hnx1
   exact⟨Kq19,([b2]),(by intro c hc;simp only[List.mem_cons,List.mem_append,Xt,List.not_mem_nil,or_false,false_or,not_or,ne_eq,List.nil_append,List.cons_append,true_and,and_true,false_and,and_false,not_true_eq_false,not_false_eq_true,or_true,true_or] at hc ⊢;omega),⟨a3,hm,rfl,G,trivial⟩⟩
 · clear hm;rintro o fp w7 T m H ⟨a3,hm,rfl,i,-⟩ K7
   replace hm:=An hm
   have I:Kz [(1,b2)] w2 w7:=Gv K7 (by intro k hk;simp only[Ze,and_true,List.mem_cons,List.mem_append,Xt,List.not_mem_nil,or_false,false_or,not_or,ne_eq,List.nil_append,List.cons_append,true_and,and_true,false_and,and_false,not_true_eq_false,not_false_eq_true,or_true,true_or] at hk ⊢;omega)
   have aj:=K7.size
   have U:=Df.lt (w:=w7) m
   simp only[List.mem_cons,List.mem_append,Xt,List.not_mem_nil,or_false,false_or,not_or,ne_eq,List.nil_append,List.cons_append,true_and,and_true,false_and,and_false,not_true_eq_false,not_false_eq_true,or_true,true_or,not_and] at H
   have V:=i.lt
   unfold Ev at hm
   try dsimp only at hm
   refine Xi<|Xa<|qs 1 rfl<|qe rfl (Zs (cs':=[.int .i64 0]) (Yg).siz rfl rfl rfl i rfl rfl) ?_
   rintro _ w8 ⟨J,M8⟩
   have ak:=M8.size
   refine Qa<|Qp ?_
   have DL25:=(Df.md m M8)
   have p:=Md.put (w:=w8) o (.deferred none)
   have zL25:=p.size
   have K:=(J.md p)
   have L:Gr w (w8.putObj o (.deferred none)):=(((X9.kz I).md M8).md p)
   cases hm
   refine⟨_,_,⟨o,rfl,DL25,rfl⟩,Qr rfl (Uy Yg rfl K),?_⟩
   exact⟨rfl,L⟩
 clear hm;rintro q c rk fp w9 X n M hle ⟨rfl,a3,hm,rfl,j,-⟩ K9
 have N:Kz [(1,b2)] w2 w9:=Gv K9 (by intro k hk;simp only[Ze,and_true,List.mem_cons,List.mem_append,Xt,List.not_mem_nil,or_false,false_or,not_or,ne_eq,List.nil_append,List.cons_append,true_and,and_true,false_and,and_false,not_true_eq_false,not_false_eq_true,or_true,true_or] at hk ⊢;omega)
 have al:=K9.size
 have Y:=Df.lt (w:=w9) n
 simp only[List.mem_cons,List.mem_append,Xt,List.not_mem_nil,or_false,false_or,not_or,ne_eq,List.nil_append,List.cons_append,true_and,and_true,false_and,and_false,not_true_eq_false,not_false_eq_true,or_true,true_or,not_and] at M
 have Z:=j.lt
 unfold Qdq at hm
 try dsimp only at hm
 refine Qp<|Zk<|Xp ?_
 have DL31:=n
 have s:=Md.put (w:=w9) q (.deferred none)
 have zL31:=s.size
 have O:=(j.md s)
 have P:Gr w (w9.putObj q (.deferred none)):=((X9.kz N).md s)
 cases hm
 refine⟨_,_,⟨q,rfl,DL31,rfl⟩,Qr rfl (Uy Yg rfl O),?_⟩
 exact⟨rfl,P⟩
theorem Qho {p0 p1 p2 r}(hm:Lk p0 p1 p2=some r){w:World}:
 Calls Tryz.prog 77 [.agg (Xl.cs p0).toArray,.int .i64 p1,.int .i64 p2].toArray w fun e w'=>∃ v,e=.returned v∧(v=.int .i64 r∧Gr w w'):=by
 unfold Lk at hm
 refine Xj 14 Tryz.func77 rfl rfl rfl<|qs 2 rfl<|qe rfl (Xq (cs:=Xl.cs p0) rfl rfl) ?_
 rintro _ w1 ⟨b1,rfl,m,f,G1⟩
 have z1:=G1.size
 have n:=f.lt
 refine qm rfl<|Qa<|Qh<|dw [([])] [] (.leaf [(0,10),(1,10),(2,10),(4,10),(5,10),(3,0),(6,0),(7,10)]) ?_
 intro w2 G2 o
 refine Jp<|dm 0 rfl rfl<|dm 0 rfl rfl ?_
 obtain⟨nn1,hnn1,hm⟩:=Qc hm
 refine dh 0 rfl rfl (fun w hS=>Qdb (a:=p2) (b:=(un 1#64)) rfl rfl hnn1) ?_
 have B3:=(f.gr G2)
 refine dh 0 rfl rfl (fun w hS=>Xm Jy rfl (Bx.kp B3 hS) rfl)<|dh 0 rfl rfl (fun w hS=>Tx rfl rfl) ?_
 obtain⟨x2,k,hm⟩:=Qc hm
 refine qz [] rfl (eC Qiz rfl (Qhm k)) ⟨fun _=>Qn,trivial⟩ ?_
 rintro _ w3 ⟨g,h,rfl,c,i,d,j,G3⟩
 have z4:=G3.size
 have p:=c.lt
 have q:=d.lt
 refine kG G3 ?_
 obtain⟨x3,l,hm⟩:=Qc hm
 refine qz [] rfl (eC Qp5 rfl (Qop l c d)) ⟨fun _=>Qn,trivial⟩ ?_
 rintro _ w4 ⟨rfl,G4⟩
 have z7:=G4.size
 refine kG G4 ?_
 have S8:=(((Kp.refl ([]) w2).gr G3).gr G4)
 refine dn 0 rfl rfl S8<|Qa<|Qp ?_
 have X9:=(((((Gr.refl w).trans G1).trans G2).trans G3).trans G4)
 cases hm
 exact⟨_,_,rfl,Qr rfl (Ql rfl),rfl,X9⟩
theorem Qhr {p0 p1 r}(hm:Qaj p0 p1=some r){w:World}:
 Calls Tryz.prog 96 [.agg (Xl.cs p0).toArray,.agg (Qm.cs p1).toArray].toArray w fun e w'=>∃ v,e=.returned v∧(v=.bool r∧Gr w w'):=by
 unfold Qaj at hm
 refine Xj 68 Tryz.func96 rfl rfl rfl<|qs 3 rfl<|qe rfl (Xq (cs:=Xl.cs p0) rfl rfl) ?_
 rintro _ w1 ⟨b1,rfl,F,f,G1⟩
 have z1:=G1.size
 have H:=f.lt
 refine qe rfl (Xq (cs:=Qm.cs p1) rfl rfl) ?_
 rintro _ w2 ⟨b2,rfl,G,g,G2⟩
 have z3:=G2.size
 have I:=g.lt
 refine qm rfl<|Qa<|Qh<|dw [([])] [] (.leaf [(0,10),(1,10),(2,10),(3,10),(4,10),(5,10)]) ?_
 intro w3 G3 J
 refine Jp<|dh 0 rfl rfl (fun w hS=>Qg Tg rfl) ?_
 have B5:=(g.gr G3)
 refine dh 0 rfl rfl (fun w hS=>Qf (v:=.int .i64 p1.Node) Qe rfl (Bx.kp B5 hS) rfl)<|dh 0 rfl rfl (fun w hS=>Qg Lo rfl)<|dh 0 rfl rfl (fun w hS=>Qf (v:=.int .i64 p1.Minus) Qe rfl (Bx.kp B5 hS) rfl)<|dm 0 rfl rfl<|dm 0 rfl rfl<|Qa<|Qh ?_
 refine Xc<|qs 6 rfl ?_
 have B6:=((f.gr G2).gr G3)
 refine qv rfl (Xm Jy rfl B6 rfl)<|qv rfl (Qg Tg rfl)<|qv rfl (Qf (v:=.int .i64 p1.Node) Qe rfl B5 rfl) ?_
 obtain⟨x1,i,hm⟩:=Qc hm
 refine qe rfl (eC Qi8 rfl (Qhp i)) ?_
 rintro _ w4 ⟨rfl,G4⟩
 have z7:=G4.size
 refine qv rfl (Zr rfl)<|qm rfl<|Qa<|Zh hm rfl (fun c1 hm=>?_) (fun c1 hm=>?_)
 · refine qs 1 rfl<|qm rfl<|Qa<|Qp<|Zk<|Xp ?_
   have Y1:=Gr.trans (Gr.trans (Gr.trans G1 G2) G3) G4
   have X8:=((Gr.refl w).trans Y1)
   cases hm
   exact⟨_,_,rfl,Qr rfl (Ql rfl),rfl,X8⟩
 have Y2:=Gr.trans (Gr.trans (Gr.trans G1 G2) G3) G4
 have X9:=((Gr.refl w).trans Y2)
 refine qj (β:=Bool) (rg 17 8) (fun a2=>[(17,.bool a2)]) (fun a2 wr=>(Qak p0 p1 a2=some r)∧Kz [] w4 wr) ?_ ?_
 · refine qg 8 rfl<|qv rfl (Qg Mc rfl) ?_
   have j:=(B6.gr G4)
   refine qv rfl (Qf (v:=bv p0.kind) Zb rfl j rfl)<|qv rfl (Jz (p:=p0.kind) (q:=1#8) rfl rfl)<|Zm hm rfl (Qt rfl) (fun k hm=>?_) (fun k hm=>?_)
   · refine qn 4 rfl<|Qj ?_
     exact⟨rfl,true,Qi,hm,Qw⟩
   refine qm rfl<|qv rfl (Xv (a:=p1.Minus) (b:=0) rfl rfl)<|qn 2 rfl<|Qj ?_
   exact⟨rfl,(decide (p1.Minus=0)),Qi,hm,Qw⟩
 clear hm;rintro a2 w5 ⟨hm,K5⟩
 have K:=K5.size
 unfold Qak at hm
 refine Zh hm rfl (fun c2 hm=>?_) (fun c2 hm=>?_)
 · refine qs 12 rfl<|qm rfl<|qv rfl (Xv (a:=p1.Minus) (b:=0) rfl rfl)<|Jo hm rfl (Qt rfl) (fun c3 hm=>?_) (fun c3 hm=>?_)
   · refine qn 7 rfl ?_
     refine qn 2 rfl<|Qa<|Qp<|Zk<|Xp ?_
     have l:=(X9.kz K5)
     cases hm
     exact⟨_,_,rfl,Qr rfl (Ql rfl),rfl,l⟩
   refine qv rfl (Qg Mc rfl) ?_
   have m:=((B6.gr G4).kz K5)
   refine qv rfl (Qf (v:=bv p0.kind) Zb rfl m rfl)<|qv rfl (Jz (p:=p0.kind) (q:=1#8) rfl rfl)<|Zm hm rfl (Qt rfl) (fun c4 hm=>?_) (fun c4 hm=>?_)
   · refine qn 5 rfl<|Qa<|Qp ?_
     refine Zk<|Xp ?_
     have n:=(X9.kz K5)
     cases hm
     exact⟨_,_,rfl,Qr rfl (Ql rfl),rfl,n⟩
   refine qm rfl<|qv rfl (Xv (a:=p1.Node) (b:=1) rfl rfl)<|qn 3 rfl<|Qa<|Qp ?_
   refine Zk<|Xp ?_
   have o:=(X9.kz K5)
   cases hm
   exact⟨_,_,rfl,Qr rfl (Ql rfl),rfl,o⟩
 have c:=(X9.kz K5)
 refine qj (β:=Bool) (rg 36 17) (fun a3=>[(36,.bool a3)]) (fun a3 wr=>(Ab p0 p1 a3=some r)∧Kz [] w5 wr) ?_ ?_
 · refine qg 17 rfl ?_
   have s:=((B6.gr G4).kz K5)
   refine qv rfl (Xm Jy rfl s rfl)<|qv rfl (Qg Lo rfl) ?_
   have t:=((B5.gr G4).kz K5)
   refine qv rfl (Qf (v:=.int .i64 p1.Minus) Qe rfl t rfl) ?_
   obtain⟨x6,u,hm⟩:=Qc hm
   refine qe rfl (eC Qi8 rfl (Qhp u)) ?_
   rintro _ w9 ⟨rfl,G9⟩
   have L:=G9.size
   refine qv rfl (Zr rfl)<|Hm hm rfl (Qt rfl) (fun c8 hm=>?_) (fun c8 hm=>?_)
   · refine qn 7 rfl ?_
     refine qn 4 rfl<|Qj ?_
     exact⟨rfl,true,Qi,hm,(Qw.gr G9)⟩
   refine qn 2 rfl<|qv rfl (Xv (a:=p1.Minus) (b:=p1.Node) rfl rfl)<|qm rfl<|Zm hm rfl (Qt rfl) (fun c9 hm=>?_) (fun c9 hm=>?_)
   · refine qn 6 rfl<|Qj ?_
     exact⟨rfl,true,Qi,hm,(Qw.gr G9)⟩
   refine qn 2 rfl ?_
   obtain⟨x7,x,hm⟩:=Qc hm
   refine qe rfl (eC Qpe rfl (Qoq x)) ?_
   rintro _ M ⟨rfl,h⟩
   have N:=h.size
   refine qv rfl (Zr rfl)<|qn 2 rfl<|Qj ?_
   exact⟨rfl,(!x7),Qi,hm,((Qw.gr G9).gr h)⟩
 clear hm;rintro a3 w6 ⟨hm,K6⟩
 have O:=K6.size
 unfold Ab at hm
 refine Zh hm rfl (fun c5 hm=>?_) (fun c5 hm=>?_)
 · refine qs 1 rfl<|qm rfl<|Qa<|Qp<|Zk<|Xp ?_
   have y:=(c.kz K6)
   cases hm
   exact⟨_,_,rfl,Qr rfl (Ql rfl),rfl,y⟩
 refine Jb<|Xi<|Xa<|qs 16 rfl<|qv rfl (Qg Mc rfl) ?_
 have d:=(((B6.gr G4).kz K5).kz K6)
 refine qv rfl (Qf (v:=bv p0.kind) Zb rfl d rfl)<|qv rfl (Jz (p:=p0.kind) (q:=2#8) rfl rfl)<|Zm hm rfl (Qt rfl) (fun c6 hm=>?_) (fun c6 hm=>?_)
 · refine qn 7 rfl ?_
   refine qn 5 rfl<|Qa<|Qp ?_
   have z:=(c.kz K6)
   cases hm
   exact⟨_,_,rfl,Qr rfl (Ql rfl),rfl,z⟩
 refine qv rfl (Xm Jy rfl d rfl)<|qm rfl ?_
 obtain⟨x4,A,hm⟩:=Qc hm
 refine qe rfl (eC Qea rfl (Qdv A)) ?_
 rintro _ w7 ⟨rfl,G7⟩
 have P:=G7.size
 refine qm rfl<|Hm hm rfl (Qt rfl) (fun c7 hm=>?_) (fun c7 hm=>?_)
 · refine qn 7 rfl ?_
   refine Qa<|Qp ?_
   have B:=((c.kz K6).trans G7)
   cases hm
   exact⟨_,_,rfl,Qr rfl (Ql rfl),rfl,B⟩
 have C:=(d.gr G7)
 refine qv rfl (Xm Jy rfl C rfl)<|qn 2 rfl ?_
 obtain⟨x5,D,hm⟩:=Qc hm
 refine qe rfl (eC Qiu rfl (Qho D)) ?_
 rintro _ w8 ⟨rfl,G8⟩
 have Q:=G8.size
 refine qv rfl (Xv (a:=x5) (b:=0) rfl rfl)<|qn 2 rfl<|Qa<|Qp ?_
 have E:=(((c.kz K6).trans G7).trans G8)
 cases hm
 exact⟨_,_,rfl,Qr rfl (Ql rfl),rfl,E⟩
theorem Qhk {p0 p1 vp1 zp1 gp1 op1 r}(hm:Cm p0 p1=some r){w:World}(h:Rd w zp1 gp1 op1 2 vp1 (p1.map Qm.cs)):
 Calls Tryz.prog 53 [.agg (Qo.cs p0).toArray,vp1].toArray w fun e w'=>∃ v,e=.returned v∧(v=.tuple [.agg (Xl.cs r.1).toArray,.int .i64 r.2].toArray∧Gr w w'):=by
 have A:=h.lth
 unfold Cm at hm
 refine Xj 31 Tryz.func53 rfl rfl rfl<|qs 3 rfl<|qe rfl (Xq (cs:=Qo.cs p0) rfl rfl) ?_
 rintro _ w1 ⟨b1,rfl,O,j,G1⟩
 have z2:=G1.size
 have U:=j.lt
 refine qe rfl (Zz (cs:=Xl.cs (Xl.mk 0#8 0 0)) Ff rfl) ?_
 rintro _ w2 ⟨b2,rfl,P,d,G2⟩
 have z4:=G2.size
 have V:=d.lt
 refine qm rfl<|qd 8 rfl ?_
 have B6:=(j.gr G2)
 refine qv rfl (Xm Zj rfl B6 rfl) ?_
 obtain⟨x1,B,hm⟩:=Qc hm
 refine qe rfl (eC Qix rfl (Qhn B)) ?_
 rintro _ w3 ⟨rfl,G3⟩
 have z7:=G3.size
 refine qn 3 rfl<|qe rfl (Zz (cs:=Xl.cs (Xl.mk 0#8 0 0)) Ff rfl) ?_
 rintro _ w4 ⟨b4,rfl,Q,m,G4⟩
 have z8:=G4.size
 have W:=m.lt
 refine qe rfl (Jh Jy rfl rfl rfl m rfl rfl) ?_
 rintro _ w5 ⟨n,M5⟩
 have X:=M5.size
 refine qm rfl<|Qa<|Qh<|qs 2 rfl<|qm rfl<|qv rfl (Zr rfl) ?_
 refine Qa<|Zh hm rfl (fun c1 hm=>?_) (fun c1 hm=>?_)
 · refine qs 3 rfl<|qv rfl (Kl (cs:=Xl.cs (Xl.mk 0#8 0 0)) Qa4 rfl rfl) ?_
   have Y1:=Gr.trans G3 G4
   have C:=((d.gr Y1).md M5)
   refine qe rfl (Jh Jy rfl rfl rfl C rfl rfl) ?_
   rintro _ w6 ⟨D,M6⟩
   have Y:=M6.size
   refine qm rfl<|qb ?_
   have Y2:=Gr.trans (Gr.trans G1 G2) Y1
   have E:=((((Gr.refl w).trans Y2).md M5).md M6)
   cases hm
   exact⟨_,_,rfl,Jk rfl (Wc Jy rfl D rfl) (Ql rfl),rfl,E⟩
 refine qu<|Qh<|qs 3 rfl<|qm rfl ?_
 have Y3:=Gr.trans (Gr.trans (Gr.trans G1 G2) G3) G4
 have o:=((h.gr Y3).md M5 (Xs A))
 refine qv rfl (Vm (l:=p1) (c:=Qm.cs) Tryz.underlying101 rfl o)<|qm rfl<|Qa<|Xc ?_
 have p:=(((Gr.refl w).trans Y3).md M5)
 refine Zv (α:=Nat × Int) ([5,9]++rg 20 10) (fun⟨n1,a3⟩=>[(5,.int .i64 0),(20,.int .i64 a3)]) (fun⟨n1,a3⟩ wr=>(Qs (Qab p1 x1) n1 a3=some r)∧Kz [] w5 wr) (fun⟨n1,a3⟩=>n1) ⟨Qy,0⟩ ?_ ?_ ?_
 · exact Qi
 · exact⟨hm,Kz.refl _ _⟩
 clear hm;rintro⟨n1,a3⟩ w7 ⟨hm,K7⟩
 have Z:=K7.size
 have hb:=Zu hm;clear hm;obtain⟨n1,rfl,hm⟩:=hb
 generalize g:Qs (Qab p1 x1) n1=R at hm
 unfold Qab at hm
 try dsimp only at hm
 refine qs 1 rfl<|qv rfl (Zo (a:=a3) (b:=(p1.length:Int)) rfl rfl)<|Qa<|Qh<|Zy hm rfl (fun c2 hm=>?_) (fun c2 hm=>?_)
 · refine Zd<|Xh<|Xh<|Zc<|Xa<|qs 3 rfl ?_
   have F:=(n.kz K7)
   refine qv rfl (Xm Jy rfl F rfl) ?_
   have Y4:=Gr.trans G3 G4
   have G:=(((d.gr Y4).md M5).kz K7)
   refine qe rfl (Jh Jy rfl rfl rfl G rfl rfl) ?_
   rintro _ aa ⟨q,s⟩
   have ab:=s.size
   refine qm rfl<|Qa<|Qp ?_
   have H:=((p.kz K7).md s)
   cases hm
   exact⟨_,_,rfl,Jk rfl (Wc Jy rfl q rfl) (Ql rfl),rfl,H⟩
 refine qu<|Qh<|Xc<|qs 4 rfl ?_
 obtain⟨y4,t,hm⟩:=Qc hm
 have u:=(o.kz K7)
 refine qv rfl (Jl (i:=a3) Tryz.underlying101 (Wn).siz rfl u rfl t)<|qv rfl (Hp Wn rfl u t (by first|rfl|omega))<|qe rfl (Zz (cs:=Qm.cs (Qm.mk 0 0)) Qa2 rfl) ?_
 rintro _ w8 ⟨b8,rfl,S,x,G8⟩
 have ac:=G8.size
 have T:=x.lt
 refine qe rfl (Jh Wn rfl rfl rfl x rfl rfl) ?_
 rintro _ w9 ⟨I,M9⟩
 have ad:=M9.size
 refine qd 4 rfl ?_
 have J:=(((n.kz K7).gr G8).md M9)
 refine qv rfl (Xm Jy rfl J rfl)<|qv rfl (Xm Wn rfl I rfl) ?_
 obtain⟨x5,K,hm⟩:=Qc hm
 refine qe rfl (eC Qiy rfl (Qhr K)) ?_
 rintro _ L ⟨rfl,f⟩
 have ae:=f.size
 refine qv rfl (Zr rfl)<|Qa<|Wz hm rfl (fun c3 hm=>?_) (fun c3 hm=>?_)
 · refine Jb<|Xi<|Xa<|qg 2 rfl<|qv rfl (Xn (k:=.i64) (a:=a3) (b:=1) rfl rfl)<|qm rfl<|Qj ?_
   have K_26:Kz [] w5 L:=(((K7.gr G8).md M9).gr f)
   subst g
   exact⟨rfl,⟨n1,Qb (a3+1)⟩,Qi,⟨hm,K_26⟩,Nat.lt_succ_self _⟩
 refine qs 3 rfl<|qv rfl (Kl (cs:=Xl.cs (Xl.mk 0#8 0 0)) Qa4 rfl rfl) ?_
 have Y5:=Gr.trans G3 G4
 have M:=((((((d.gr Y5).md M5).kz K7).gr G8).md M9).gr f)
 refine qe rfl (Jh Jy rfl rfl rfl M rfl rfl) ?_
 rintro _ af ⟨y,z⟩
 have ag:=z.size
 refine qm rfl<|Qa<|Qp<|Zk<|Xp<|Xp<|Zk ?_
 refine Xp ?_
 have N:=(((((p.kz K7).trans G8).md M9).trans f).md z)
 cases hm
 exact⟨_,_,rfl,Jk rfl (Wc Jy rfl y rfl) (Ql rfl),rfl,N⟩
theorem Qos {p0 p1 r}(hm:Qds p0 p1=some r){w:World}:
 Calls Tryz.prog 54 [.agg (Xl.cs p0).toArray,.int .i64 p1].toArray w fun e w'=>∃ v,e=.returned v∧(∃ bc0 bc1,v=.func (.func 97) #[] [.pointer (some ⟨bc0,0,none⟩),.pointer (some ⟨bc1,0,none⟩)].toArray∧Bx w' bc0 120 (Xl.cs r.1)∧(w.heap.size≤bc0)∧Bx w' bc1 3 ([.int .i64 r.2])∧(w.heap.size≤bc1)∧Gr w w'):=by
 unfold Qds at hm
 refine Xj 6 Tryz.func54 rfl rfl rfl<|qs 3 rfl<|qe rfl (Xq (cs:=Xl.cs p0) rfl rfl) ?_
 rintro _ w1 ⟨b1,rfl,c,a,G1⟩
 have z1:=G1.size
 have f:=a.lt
 refine qe rfl (Xq (cs:=[.int .i64 p1]) rfl rfl) ?_
 rintro _ w2 ⟨b2,rfl,d,b,G2⟩
 have z3:=G2.size
 have g:=b.lt
 refine qm rfl<|qd 2 rfl<|qv rfl (Tx rfl rfl)<|qm rfl<|Qa ?_
 refine Qp ?_
 have B5:=(a.gr G2)
 have X6:=(((Gr.refl w).trans G1).trans G2)
 cases hm
 exact⟨_,_,rfl,Qr rfl (Ql rfl),b1,b2,rfl,B5,by omega,b,by omega,X6⟩
theorem Qhq {p0 p1 r}(hm:Rb p0 p1=some r){w:World}:
 Calls Tryz.prog 74 [.agg (Xl.cs p0).toArray,.int .i64 p1].toArray w fun e w'=>∃ v,e=.returned v∧(v=.int .i64 r∧Gr w w'):=by
 unfold Rb at hm
 refine Xj 9 Tryz.func74 rfl rfl rfl<|qs 2 rfl<|qe rfl (Xq (cs:=Xl.cs p0) rfl rfl) ?_
 rintro _ w1 ⟨b1,rfl,f,c,G1⟩
 have z1:=G1.size
 have g:=c.lt
 refine qm rfl<|qd 5 rfl<|qv rfl (Xm Jy rfl c rfl) ?_
 obtain⟨x1,d,hm⟩:=Qc hm
 refine qe rfl (eC Qe1 rfl (Qdu d)) ?_
 rintro _ w2 ⟨rfl,G2⟩
 have z3:=G2.size
 refine qm rfl<|qv rfl (Xn (k:=.i64) (a:=x1) (b:=p1) rfl rfl)<|qm rfl<|Qa<|Qp ?_
 have X4:=(((Gr.refl w).trans G1).trans G2)
 cases hm
 exact⟨_,_,rfl,Qr rfl (Ql rfl),rfl,X4⟩
theorem Qad {p0 r}(hm:Lh p0=some r){w:World}:
 Calls Tryz.prog 76 [.int .i64 p0].toArray w fun e w'=>∃ v,e=.returned v∧(v=.int .i64 r∧Gr w w'):=by
 unfold Lh at hm
 refine Xj 5 Tryz.func76 rfl rfl rfl<|qs 1 rfl<|qm rfl<|qd 3 rfl ?_
 refine qm rfl<|qv rfl (Qgn (a:=p0) (b:=1) (by simp) rfl rfl)<|qm rfl<|Qa<|Qp ?_
 cases hm
 exact⟨_,_,rfl,Qr rfl (Ql rfl),rfl,(Gr.refl w)⟩
theorem Qor (p1:Xl)(p2:Int)(bp1:Nat)(bp2:Nat)(xs:List (Int × Int))(hm:Qdt p1 p2=some xs)(w0:World)(hbp1:Bx w0 bp1 120 (Xl.cs p1))(hbp2:Bx w0 bp2 3 ([.int .i64 p2])):
 IT Tryz.prog 97 [.pointer (some ⟨bp1,0,none⟩),.pointer (some ⟨bp2,0,none⟩)] (xs.map (fun(x:Int × Int)=>([.int .i64 x.1,.int .i64 x.2]:List Value))) ([bp1]++[bp2]) w0:=by
 intro l J Jx w fp hG hJ hJx hcap h0 hY
 have c1:=Bx.gr hbp1 hG
 have da:=c1.lt
 have aG:bp1∉fp:=hcap _ (by simp)
 have c4:=Bx.gr hbp2 hG
 have db:=c4.lt
 have aH:bp2∉fp:=hcap _ (by simp)
 have hd:=Qam xs
 unfold Qdt at hm
 refine Xj 48 Tryz.func97 rfl rfl rfl<|qs 1 rfl<|qe rfl (Xq rfl rfl) ?_
 rintro _ w1 ⟨b1,rfl,cH,aI,G1⟩
 have z7:=G1.size
 have dc:=aI.lt
 have aJ:b1∉fp:=fun h=>absurd (hJ.lt h0 _ h) (by omega)
 refine qd 4 rfl ?_
 have aK:=(c1.gr G1)
 refine qv rfl (Xm Jy rfl aK rfl) ?_
 have aL:=(c4.gr G1)
 refine qv rfl (Qf (v:=.int .i64 p2) Qe rfl aL rfl) ?_
 obtain⟨x1,bF,hm⟩:=Qc hm
 refine qe rfl (eC Qit rfl (Qhq bF)) ?_
 rintro _ w2 ⟨rfl,G2⟩
 have bG:=(hJ.gr h0 G1)
 have de:=G2.size
 refine qm rfl<|Qa<|Qh<|qs 3 rfl ?_
 have aM:=(aI.gr G2)
 refine qv rfl (Qf Qf4 rfl aM rfl) ?_
 have bH:=(hJ.gr bG G2)
 have KI17:Kp fp w w2:=(((Kp.refl fp w).gr G1).gr G2)
 obtain⟨rr15,hm,he15⟩:=Ei hm
 have ae:=Dr.at hd he15
 have hd15:=Dr.next hd he15
 have bI:=(aK.gr G2)
 have bJ:=(aL.gr G2)
 refine qe rfl (Cz rfl rfl (hY _ _ _ _ (Tp ae) bH KI17 (fun c hc=>Or.inl hc))) ?_
 rintro _ w3 ⟨bb,rfl,KF15,n,hg15,hJb⟩
 have df:=KF15.size
 have sub15:∀ c∈n,c∈fp∨w.heap.size≤c:=Tw (fun c hc=>Or.inl hc) hg15 (by omega)
 have aN:=Jt hg15 aG (by omega)
 have aO:=Jt hg15 aH (by omega)
 have aP:=Jt hg15 aJ (by omega)
 cases bb
 · have Jy15:Jx (0+1) n w3:=hJb
   refine qv rfl (Zr rfl)<|Qa<|Nt rfl<|Qp<|Xp ?_
   have KI24:Kp fp w w3:=(KI17.trans KF15 (fun c hc=>Or.inl hc))
   exact⟨_,_,rfl,Ta rfl,KI24,.inr ⟨_,_,sub15,(by rw[List.length_map];exact(List.getElem?_eq_some_iff.1 ae).1),Jy15⟩⟩
 have Jy15:J (0+1) n w3:=hJb
 refine qv rfl (Zr rfl)<|Qa<|Dj rfl<|qu<|qs 2 rfl ?_
 refine qe rfl (Zz (cs:=[.int .i64 0]) Qdi rfl) ?_
 rintro _ w4 ⟨b4,rfl,cI,aQ,G4⟩
 have dg:=G4.size
 have cJ:=aQ.lt
 have af:b4∉n:=fun h=>absurd (hJ.lt Jy15 _ h) (by omega)
 refine qe rfl (Zs (cs':=[.int .i64 1]) (Yg).siz rfl rfl rfl aQ rfl rfl) ?_
 rintro _ w5 ⟨bK,M5⟩
 have di:=M5.size
 refine Qa<|Xc ?_
 have bL:=(hJ.md (hJ.gr Jy15 G4) M5 af)
 have KI30:Kp fp w w5:=(((KI17.trans KF15 (fun c hc=>Or.inl hc)).gr G4).md M5 (Or.inr (by omega)))
 have bM:=(((Bx.kp bI KF15 aG).gr G4).md M5)
 have bN:=(((Bx.kp bJ KF15 aH).gr G4).md M5)
 have bO:=(((Bx.kp aM KF15 aJ).gr G4).md M5)
 refine Qwj (α:=Nat × Int × Nat × Nat × List Nat × List (Int × Int)) ([5,6,7]++rg 14 34) (fun⟨n1,a2,bq1_5,kk,fpl,rl⟩=>[(5,.pointer (some ⟨bq1_5,0,none⟩))]) (fun⟨n1,a2,bq1_5,kk,fpl,rl⟩ ks wr=>(Qs (Qah p1 x1) n1 a2=some rl)∧Dr xs kk rl∧J kk fpl wr∧(∀ c∈fpl,c∈fp∨w.heap.size≤c)∧Kp fp w wr∧Bx wr bp1 120 (Xl.cs p1)∧Bx wr bp2 3 ([.int .i64 p2])∧Bx wr b1 170 [.func (.yield l) #[] #[]]∧bp1∉fpl∧bp2∉fpl∧b1∉fpl∧Bx wr bq1_5 149 ([.int .i64 a2])∧bq1_5∉fpl∧w.heap.size≤bq1_5∧bq1_5≠bp1∧bq1_5≠bp2∧bq1_5≠b1∧Jg w.heap.size ks fpl wr) (fun⟨n1,a2,bq1_5,kk,fpl,rl⟩=>n1) ⟨Qy,1,b4,(0+1),n,rr15⟩ [] rfl ?_ ?_ ?_
 · exact Qi
 · exact⟨hm,hd15,bL,sub15,KI30,bM,bN,bO,aN,aO,aP,bK,af,(by omega),(by omega),(by omega),(by omega),(Qs4 w.heap.size n w5)⟩
 clear hm;rintro⟨n1,a2,bq1_5,ad,fpl1,rl1⟩ ks1 w6 ⟨hm,dl1,JLw6,sl1,KLw6,o,D,E,f,g,d,m,e,bP,bQ,bR,bS,MKw6⟩
 have dj:=KLw6.size
 have cK:=o.lt
 have cL:=D.lt
 have cM:=E.lt
 have cN:=m.lt
 have hb:=Zu hm;clear hm;obtain⟨n1,rfl,hm⟩:=hb
 generalize T:Qs (Qah p1 x1) n1=ag at hm
 unfold Qah at hm
 try dsimp only at hm
 refine Qh<|qs 3 rfl<|qv rfl (Qf (v:=.int .i64 a2) Yg rfl m rfl)<|qm rfl<|qv rfl (Ke (a:=a2) (b:=x1) rfl rfl)<|Qa ?_
 refine Zy hm rfl (fun c1 hm=>?_) (fun c1 hm=>?_)
 · refine Zd<|Xh<|Xh<|Zc ?_
   obtain⟨bT,ao,U⟩:=Jg.leave MKw6
   have ap:=Jg.stb hJ MKw6 JLw6 U
   have aq:=Jg.trans MKw6 KLw6 U
   have he:=Option.some.inj hm
   have hl:=Dr.last (c:=(fun(x:Int × Int)=>([.int .i64 x.1,.int .i64 x.2]:List Value))) dl1 he.symm
   refine⟨_,_,ao,Ta rfl,aq,.inl ⟨_,sl1,?_⟩⟩
   rw[←hl];exact ap
 refine qu<|Qh<|Xc<|Qh<|qs 3 rfl ?_
 refine qv rfl (Qg Mc rfl)<|qv rfl (Qf (v:=bv p1.kind) Zb rfl o rfl)<|qv rfl (Jz (p:=p1.kind) (q:=1#8) rfl rfl)<|Qa<|Zq hm rfl (fun c2 hm=>?_) (fun c2 hm=>?_)
 · refine Qh<|Qh<|dw [fpl1] [] (.leaf [(0,10),(1,10),(2,10),(3,0),(4,0),(5,0)]) ?_
   intro w7 G7 dk
   refine Jp ?_
   have aR:=(E.gr G7)
   refine qh 0 rfl rfl (Kp.refl fpl1 w7) (fun w hS=>Qf Qf4 rfl (Bx.kp aR hS d) rfl) ?_
   have aS:=(m.gr G7)
   refine qh 0 rfl rfl (Kp.refl fpl1 w7) (fun w hS=>Qf (v:=.int .i64 a2) Yg rfl (Bx.kp aS hS e) rfl)<|dn 0 rfl rfl (Kp.refl fpl1 w7) ?_
   obtain⟨x3,bU,hm⟩:=Qc hm
   refine qz [] rfl (eC Qas rfl (Qae bU)) ⟨fun _=>Qn,trivial⟩ ?_
   rintro _ w8 ⟨rfl,G8⟩
   have bV:=(hJ.gr JLw6 G7)
   have dl:=G8.size
   refine kG G8 ?_
   have bW:=(hJ.gr bV G8)
   have Y1:=Gr.trans G7 G8
   have KI45:Kp fp w w8:=(KLw6.gr Y1)
   obtain⟨rr43,hm,he43⟩:=Ei hm
   have ah:=Dr.at dl1 he43
   have hd43:=Dr.next dl1 he43
   have bX:=(o.gr Y1)
   have bY:=(D.gr Y1)
   have bZ:=(aR.gr G8)
   have b0:=(aS.gr G8)
   refine Qp1 rfl rfl rfl (Cz rfl rfl (hY _ _ _ _ (Tp ah) bW KI45 sl1)) ?_
   rintro _ w9 ⟨bb,rfl,KF43,u,hg43,hJb⟩
   refine⟨fun S=>Kp.trans S KF43 (fun b hb=>Or.inl hb),?_⟩
   have dp:=KF43.size
   have sub43:∀ c∈u,c∈fp∨w.heap.size≤c:=Tw sl1 hg43 (by omega)
   have MK51:=(MKw6.gr Y1)
   have MK43:=Jg.kp MK51 KF43 hg43
   have aT:=Jt hg43 f (by omega)
   have aU:=Jt hg43 g (by omega)
   have aV:=Jt hg43 d (by omega)
   have cO:=Jt hg43 e (by omega)
   cases bb
   · have Jy43:Jx (ad+1) u w9:=hJb
     refine qw rfl (Zr rfl)<|Qa<|Nt rfl<|Qp<|Xp<|Xp<|Zk ?_
     refine Xp<|Xp<|Zk ?_
     have KI56:Kp fp w w9:=(KI45.trans KF43 sl1)
     obtain⟨cP,aW,ai⟩:=Jg.leave MK43
     have aX:=Jg.stb hJx MK43 Jy43 ai
     have aY:=Jg.trans MK43 KI56 ai
     exact⟨_,_,aW,Ta rfl,aY,.inr ⟨_,_,sub43,(by rw[List.length_map];exact(List.getElem?_eq_some_iff.1 ah).1),aX⟩⟩
   have Jy43:J (ad+1) u w9:=hJb
   refine qw rfl (Zr rfl)<|Qa<|Dj rfl<|qu<|Zd<|Xh ?_
   refine Zc<|Xa<|Qh<|qs 1 rfl ?_
   have b2:=(Bx.kp b0 KF43 e)
   refine qv rfl (Qf (v:=.int .i64 a2) Yg rfl b2 rfl)<|Qa<|qg 2 rfl<|qe rfl (Zz (cs:=[.int .i64 0]) Qdi rfl) ?_
   rintro _ dq ⟨aZ,rfl,b3,V,F⟩
   have dr:=F.size
   have cQ:=V.lt
   have X:aZ∉u:=fun h=>absurd (hJ.lt Jy43 _ h) (by omega)
   refine qe rfl (Zs (cs':=[.int .i64 a2]) (Yg).siz rfl rfl rfl V rfl rfl) ?_
   rintro _ ds ⟨aj,G⟩
   have b5:=(hJ.gr Jy43 F)
   have MK63:=(MK43.gr F)
   have dt:=G.size
   refine Qa<|qg 4 rfl<|qv rfl (Qf (v:=.int .i64 a2) Yg rfl aj rfl)<|qm rfl ?_
   obtain⟨x4,b6,hm⟩:=Qc hm
   refine qe rfl (eC Qas rfl (Qae b6)) ?_
   rintro _ du ⟨rfl,y⟩
   have b7:=(hJ.md b5 G X)
   have dv:=y.size
   have a0:=(aj.gr y)
   refine qe rfl (Zs (cs':=[.int .i64 x4]) (Yg).siz rfl rfl rfl a0 rfl rfl) ?_
   rintro _ b8 ⟨a1,H⟩
   have b9:=(hJ.gr b7 y)
   have MK69:=((MK63.md G V).gr y)
   have dy:=H.size
   refine Qj ?_
   have ca:=(hJ.md b9 H X)
   have KI72:Kp fp w b8:=(((((KI45.trans KF43 sl1).gr F).md G (Or.inr (by omega))).gr y).md H (Or.inr (by omega)))
   have cb:=(((((Bx.kp bX KF43 f).gr F).md G).gr y).md H)
   have cc:=(((((Bx.kp bY KF43 g).gr F).md G).gr y).md H)
   have cd:=(((((Bx.kp bZ KF43 d).gr F).md G).gr y).md H)
   have MK76:=(MK69.md H a0)
   subst T
   exact⟨⟨n1,x4,aZ,(ad+1),u,rr43⟩,ks1,rfl,Qi,⟨hm,hd43,ca,sub43,KI72,cb,cc,cd,aT,aU,aV,a1,X,(by omega),(by omega),(by omega),(by omega),MK76⟩,Nat.lt_succ_self _⟩
 refine qu<|qs 3 rfl<|qv rfl (Qf (v:=.int .i64 a2) Yg rfl m rfl)<|qm rfl ?_
 obtain⟨x5,ce,hm⟩:=Qc hm
 refine qe rfl (eC Qiz rfl (Qhm ce)) ?_
 rintro _ ar ⟨P,Q,rfl,j,aE,k,aF,z⟩
 have dz:=z.size
 have cR:=j.lt
 have A:P∉fpl1:=fun h=>absurd (hJ.lt JLw6 _ h) (by omega)
 have cS:=k.lt
 have B:Q∉fpl1:=fun h=>absurd (hJ.lt JLw6 _ h) (by omega)
 refine Qa<|Xc ?_
 obtain⟨l6,cf,hm⟩:=Qc hm
 have cg:=(hJ.gr JLw6 z)
 have KI83:Kp fp w ar:=(KLw6.gr z)
 have a3:=(o.gr z)
 have a4:=(D.gr z)
 have a5:=(E.gr z)
 have a6:=(m.gr z)
 have MK88:=(MKw6.gr z)
 have MZ89:=MK88
 refine Oy (gf:=149) rfl Qi9 (Qhl x5.1 x5.2 _ _ _ cf _ j k) (by intro x hx;obtain⟨a,_,rfl⟩:=List.mem_map.1 hx;rfl) rfl _ _ fpl1 (Bk (α:=Nat × List Nat × (List (Int × Int))) (fun⟨kk,fpl,rl⟩ rk=>(Ku (Qai p1 a2) (Qag x1 a2 ag) (List.drop rk l6) ()=some rl)∧Dr xs kk rl∧(∀ c∈fpl,c∈fp∨w.heap.size≤c)∧(∀ c∈fpl,c∈fpl1∨ar.heap.size≤c)) (fun⟨kk,fpl,rl⟩=>fpl) (fun⟨kk,fpl,rl⟩ W=>J kk fpl W) (by rintro⟨kk,fpl,rl⟩ W h b hb;exact hJ.lt h b hb) (by rintro⟨kk,fpl,rl⟩ W W' h he hs;exact hJ.keep h he hs)) (fun c=>Qm6 (c=.ret) (Bk (α:=Nat × List Nat) (fun⟨kk,fpl⟩ rk=>kk≤xs.length∧(∀ c∈fpl,c∈fp∨w.heap.size≤c)∧(∀ c∈fpl,c∈fpl1∨ar.heap.size≤c)) (fun⟨kk,fpl⟩=>fpl) (fun⟨kk,fpl⟩ W=>Jx kk fpl W) (by rintro⟨kk,fpl⟩ W h b hb;exact hJx.lt h b hb) (by rintro⟨kk,fpl⟩ W W' h he hs;exact hJx.keep h he hs))) (by intro b hb;simp only[List.mem_cons,List.mem_append,Xt,List.not_mem_nil,or_false,false_or,not_or,ne_eq,List.nil_append,List.cons_append,true_and,and_true,false_and,and_false,not_true_eq_false,not_false_eq_true,or_true,true_or] at hb;rcases hb with rfl|rfl<;>first|exact⟨A,by omega⟩|exact⟨B,by omega⟩) ⟨(ad,fpl1,rl1),⟨hm,dl1,sl1,fun c hc=>Or.inl hc⟩,rfl,cg⟩ ?_ ?_ ?_
 · rintro l2 rk x fpr2 ch hl hx hIr r hF hln Xy
   clear hm
   obtain⟨e7,hxe,rfl⟩:=map_some hx
   obtain⟨⟨_,fpa,_⟩,⟨_,_,sa,sz⟩,ea,Ja⟩:=hIr
   replace ea:fpr2=fpa:=ea
   subst ea
   replace Ja:J _ fpr2 ch:=Ja
   have dA:=r.size
   have a7:=Jt hF f (by omega)
   have a8:=Jt hF g (by omega)
   have a9:=Jt hF d (by omega)
   have ba:=Jt hF e (by omega)
   have bc:=Jt hF A (by omega)
   have bd:=Jt hF B (by omega)
   have MKw15:=Jg.kp MZ89 r hF
   refine qg 1 rfl<|qm rfl<|Qj<|⟨rfl,(Gr.refl _),?_⟩
   rintro s t ⟨⟨kr2,fpb,rl2⟩,⟨hm,dr2,sr2,s0r2⟩,eb,Jr2⟩
   replace eb:fpr2=fpb:=eb
   subst eb
   replace Jr2:J kr2 fpr2 s:=Jr2
   have dB:=t.size
   replace hm:=Am hm hxe
   generalize hnx2:Ku (Qai p1 a2) (Qag x1 a2 ag) (List.drop (rk+1) l6)=dC at hm
   unfold Qai at hm
   try dsimp only at hm
   refine Xc<|qs 3 rfl<|qm rfl ?_
   obtain⟨x8,ci,hm⟩:=Qc hm
   refine qe rfl (eC Qar rfl (Qad ci)) ?_
   rintro _ dD ⟨rfl,R⟩
   have dE:=R.size
   refine qm rfl<|qd 12 rfl ?_
   have be:=(((Bx.kp a3 r f).md t).gr R)
   refine qv rfl (Xm Jy rfl be rfl) ?_
   have ak:=(((Bx.kp a6 r e).md t).gr R)
   refine qv rfl (Qf (v:=.int .i64 a2) Yg rfl ak rfl)<|qm rfl<|qv rfl (Kl (cs:=Qm.cs (Qm.mk a2 x8)) Dn rfl rfl) ?_
   obtain⟨x9,cj,hm⟩:=Qc hm
   refine qe rfl (eC Qiy rfl (Qhr cj)) ?_
   rintro _ ck ⟨rfl,I⟩
   have al:=(hJ.gr Jr2 R)
   have cT:=I.size
   refine Ng hm rfl (Qt rfl) (fun c3 hm=>?_) (fun c3 hm=>?_)
   · refine qn 6 rfl<|Qa ?_
     refine Dj rfl<|Jb<|Xi ?_
     have bf:=(hJ.gr al I)
     subst hnx2
     have Y2:=Gr.trans R I
     exact⟨((Kp.refl fpr2 s).gr Y2),fpr2,(fun c hc=>Or.inl hc:∀ c∈fpr2,c∈fpr2∨s.heap.size≤c),(kr2,fpr2,rl2),⟨hm,dr2,sr2,(Tw s0r2 (fun c hc=>Or.inl hc:∀ c∈fpr2,c∈fpr2∨s.heap.size≤c) (by omega))⟩,rfl,bf⟩
   have Y3:=Gr.trans R I
   have bg:=(((Bx.kp a5 r d).md t).gr Y3)
   refine qv rfl (Qf Qf4 rfl bg rfl) ?_
   have bh:=(ak.gr I)
   refine qv rfl (Qf (v:=.int .i64 a2) Yg rfl bh rfl)<|qm rfl ?_
   have bi:=(hJ.gr al I)
   have KI107:Kp fp w ck:=(((KI83.trans r sl1).md t (Or.inr (by omega))).gr Y3)
   obtain⟨rr105,hm,he105⟩:=Ei hm
   have Y:=Dr.at dr2 he105
   have hd105:=Dr.next dr2 he105
   have cU:=(be.gr I)
   have cV:=(((Bx.kp a4 r g).md t).gr Y3)
   have cW:=(((Bx.kp j r A).md t).gr Y3)
   have cX:=(((Bx.kp k r B).md t).gr Y3)
   refine qe rfl (Cz rfl rfl (hY _ _ _ _ (Tp Y) bi KI107 sr2)) ?_
   rintro _ bj ⟨bb,rfl,KF105,i,hg105,hJb⟩
   have cY:=KF105.size
   have sub105:∀ c∈i,c∈fp∨w.heap.size≤c:=Tw sr2 hg105 (by omega)
   have subr105:=Tw (fun c hc=>Or.inl hc:∀ c∈fpr2,c∈fpr2∨s.heap.size≤c) hg105 (by omega)
   have MK113:=((Jg.mdl MKw15 t MZ89 hl).gr Y3)
   have MK105:=Jg.kp MK113 KF105 hg105
   have cl:=Jt hg105 a7 (by omega)
   have cm:=Jt hg105 a8 (by omega)
   have cn:=Jt hg105 a9 (by omega)
   have co:=Jt hg105 ba (by omega)
   have cp:=Jt hg105 bc (by omega)
   have cq:=Jt hg105 bd (by omega)
   cases bb
   · have Jy105:Jx (kr2+1) i bj:=hJb
     refine qv rfl (Zr rfl)<|qm rfl<|Qa<|Nt rfl<|Qp<|Zk ?_
     exact⟨(((Kp.refl fpr2 s).gr Y3).trans KF105 (fun c hc=>Or.inl hc:∀ c∈fpr2,c∈fpr2∨s.heap.size≤c)),i,subr105,rfl,((kr2+1),i),⟨(List.getElem?_eq_some_iff.1 Y).1,sub105,(Tw s0r2 subr105 (by omega))⟩,rfl,Jy105⟩
   have Jy105:J (kr2+1) i bj:=hJb
   refine qv rfl (Zr rfl)<|qm rfl<|Qa<|Dj rfl<|Jb<|Xi ?_
   subst hnx2
   exact⟨(((Kp.refl fpr2 s).gr Y3).trans KF105 (fun c hc=>Or.inl hc:∀ c∈fpr2,c∈fpr2∨s.heap.size≤c)),i,subr105,((kr2+1),i,rr105),⟨hm,hd105,sub105,(Tw s0r2 subr105 (by omega))⟩,rfl,Jy105⟩
 · clear hm;rintro bk fpdw20 bm au Z bo ⟨⟨kd,fpe,rd⟩,⟨hm,dd,sd,s0d⟩,ed,Jd⟩ K
   replace ed:fpdw20=fpe:=ed
   subst ed
   replace Jd:J kd fpdw20 bm:=Jd
   have cZ:=K.size
   have cr:=Df.lt (w:=bm) Z
   have av:=Jt s0d f (by omega)
   have aw:=Jt s0d g (by omega)
   have ax:=Jt s0d d (by omega)
   have ct:=Jt s0d e (by omega)
   have cu:=Jt s0d A (by omega)
   have cv:=Jt s0d B (by omega)
   have MKw20:=Jg.cons (Jg.kp MZ89 K s0d) MZ89 au (by omega) Z bo
   replace hm:=An hm
   unfold Qag at hm
   try dsimp only at hm
   refine Xi<|Xi<|Xa<|Qh<|qs 1 rfl ?_
   have bp:=(Bx.kp a6 K e)
   refine qv rfl (Qf (v:=.int .i64 a2) Yg rfl bp rfl)<|Qa<|qg 2 rfl<|qe rfl (Zz (cs:=[.int .i64 0]) Qdi rfl) ?_
   rintro _ dF ⟨bq,rfl,cw,aa,L⟩
   have c0:=L.size
   have cx:=aa.lt
   have M:bq∉fpdw20:=fun h=>absurd (hJ.lt Jd _ h) (by omega)
   refine qe rfl (Zs (cs':=[.int .i64 a2]) (Yg).siz rfl rfl rfl aa rfl rfl) ?_
   rintro _ dG ⟨am,N⟩
   have br:=(hJ.gr Jd L)
   have MK137:=(MKw20.gr L)
   have c5:=N.size
   refine Qa<|qg 4 rfl<|qv rfl (Qf (v:=.int .i64 a2) Yg rfl am rfl)<|qm rfl ?_
   obtain⟨bs,bu,hm⟩:=Qc hm
   refine qe rfl (eC Qas rfl (Qae bu)) ?_
   rintro _ dH ⟨rfl,C⟩
   have bw:=(hJ.md br N M)
   have c6:=C.size
   have an:=(am.gr C)
   refine qe rfl (Zs (cs':=[.int .i64 bs]) (Yg).siz rfl rfl rfl an rfl rfl) ?_
   rintro _ cy ⟨bx,O⟩
   have bz:=(hJ.gr bw C)
   have MK143:=((MK137.md N aa).gr C)
   have c7:=O.size
   refine Qj ?_
   have bA:=(hJ.md bz O M)
   have KI146:Kp fp w cy:=(((((KI83.trans K sl1).gr L).md N (Or.inr (by omega))).gr C).md O (Or.inr (by omega)))
   have bB:=(((((Bx.kp a3 K f).gr L).md N).gr C).md O)
   have bC:=(((((Bx.kp a4 K g).gr L).md N).gr C).md O)
   have bD:=(((((Bx.kp a5 K d).gr L).md N).gr C).md O)
   have MK150:=(MK143.md O an)
   subst T
   exact⟨⟨n1,bs,bq,kd,fpdw20,rd⟩,(bk::ks1),rfl,Qi,⟨hm,dd,bA,sd,KI146,bB,bC,bD,av,aw,ax,bx,M,(by omega),(by omega),(by omega),(by omega),MK150⟩,Nat.lt_succ_self _⟩
 clear hm;rintro c8 c rk fpdw25 ay az ab bE hle ⟨rfl,⟨kd,fpe⟩,⟨led,sd,s0d⟩,ed,Jd⟩ aA
 replace ed:fpdw25=fpe:=ed
 subst ed
 replace Jd:Jx kd fpdw25 ay:=Jd
 have c9:=aA.size
 have cz:=Df.lt (w:=ay) ab
 have cA:=Jt s0d f (by omega)
 have cB:=Jt s0d g (by omega)
 have cC:=Jt s0d d (by omega)
 have cD:=Jt s0d e (by omega)
 have cE:=Jt s0d A (by omega)
 have cF:=Jt s0d B (by omega)
 have MKw25:=Jg.cons (Jg.kp MZ89 aA s0d) MZ89 az (by omega) ab bE
 refine Qp<|Zk<|Zk<|Xp<|Xp<|Zk ?_
 have KI159:Kp fp w ay:=(KI83.trans aA sl1)
 obtain⟨cG,aB,ac⟩:=Jg.leave MKw25
 have aC:=Jg.stb hJx MKw25 Jd ac
 have aD:=Jg.trans MKw25 KI159 ac
 exact⟨_,_,aB,Ta rfl,aD,.inr ⟨_,_,sd,(by rw[List.length_map];exact led),aC⟩⟩
theorem Qoo {p0 r}(hm:Eu p0=some r){w:World}:
 Calls Tryz.prog 32 [.agg (Qo.cs p0).toArray].toArray w fun e w'=>∃ v,e=.returned v∧(v=.tuple [.int .i64 r.1,.int .i64 r.2].toArray∧Gr w w'):=by
 unfold Eu at hm
 refine Xj 22 Tryz.func32 rfl rfl rfl<|qs 3 rfl<|qe rfl (Xq (cs:=Qo.cs p0) rfl rfl) ?_
 rintro _ w1 ⟨b1,rfl,R,o,G1⟩
 have z1:=G1.size
 have aa:=o.lt
 refine qn 2 rfl<|qd 8 rfl<|qv rfl (Xm Zj rfl o rfl) ?_
 obtain⟨x1,I,hm⟩:=Qc hm
 refine qe rfl (eC Qip rfl (Qhk I (Qk.rd (Kx _ 0 137 2)))) ?_
 rintro _ w2 ⟨rfl,G2⟩
 have z3:=G2.size
 refine qn 3 rfl<|qe rfl (Zz (cs:=Xl.cs (Xl.mk 0#8 0 0)) Ff rfl) ?_
 rintro _ w3 ⟨b3,rfl,S,p,G3⟩
 have z4:=G3.size
 have ab:=p.lt
 refine qe rfl (Jh Jy rfl rfl rfl p rfl rfl) ?_
 rintro _ w4 ⟨J,M4⟩
 have z6:=M4.size
 refine qm rfl<|Qa<|Qh<|qs 2 rfl<|qm rfl<|qv rfl (Ke (a:=x1.2) (b:=0) rfl rfl) ?_
 refine Qa<|Zq hm rfl (fun c1 hm=>?_) (fun c1 hm=>?_)
 · refine qs 3 rfl<|qn 3 rfl<|Qa<|Qp ?_
   refine Xp ?_
   have X7:=(((((Gr.refl w).trans G1).trans G2).trans G3).md M4)
   cases hm
   exact⟨_,_,rfl,Jk rfl (Ql rfl) (Ql rfl),rfl,X7⟩
 refine qu<|qs 2 rfl<|qe rfl (Zz (cs:=[.int .i64 0]) Dm rfl) ?_
 rintro _ w5 ⟨b5,rfl,T,q,G5⟩
 have z8:=G5.size
 have ac:=q.lt
 refine qe rfl (Zs (cs':=[.int .i64 0]) (Qe).siz rfl rfl rfl q rfl rfl) ?_
 rintro _ w6 ⟨K,M6⟩
 have ad:=M6.size
 refine Qa<|Qh<|qs 2 rfl ?_
 have s:=((J.gr G5).md M6)
 refine qv rfl (Xm Jy rfl s rfl) ?_
 obtain⟨x2,L,hm⟩:=Qc hm
 refine qe rfl (eC Qq2 rfl (Qos L)) ?_
 rintro _ w7 ⟨t,u,rfl,d,y,f,z,G7⟩
 have ae:=G7.size
 have U:=d.lt
 have V:=f.lt
 refine Qa<|Xc ?_
 obtain⟨l3,M,hm⟩:=Qc hm
 have N:=((((((((Gr.refl w).trans G1).trans G2).trans G3).md M4).trans G5).md M6).trans G7)
 have af:=((((((o.gr G2).gr G3).md M4).gr G5).md M6).gr G7)
 have ag:=(s.gr G7)
 have O:=(K.gr G7)
 refine Oy (gf:=97) rfl Qql (Qor x2.1 x2.2 _ _ _ M _ d f) (by intro x hx;obtain⟨a,_,rfl⟩:=List.mem_map.1 hx;rfl) rfl _ (fun _ _ _ _=>False) ([b5]) (Bk (α:=Int) (fun a5 rk=>Ku Qaa Qa9 (List.drop rk l3) a5=some r) (fun a5=>([b5])) (fun a5 W=>Bx W b5 3 ([.int .i64 a5])∧True) (by rintro a5 W ⟨F0,_⟩ b hb;have q0:=F0.lt;replace hb:b∈([b5]):=hb;simp only[List.mem_cons,List.mem_append,Xt,List.not_mem_nil,or_false,false_or,not_or,ne_eq,List.nil_append,List.cons_append,true_and,and_true,false_and,and_false,not_true_eq_false,not_false_eq_true,or_true,true_or] at hb;omega) (by rintro a5 W W' ⟨F0,_⟩ E hs;replace hs:∀ b∈([b5]),W'.heap[b]? = W.heap[b]? := hs;exact⟨(hs _ (by simp)).trans F0,trivial⟩)) (fun _=>Qgf) (by intro b hb;simp only[List.mem_cons,List.mem_append,Xt,List.not_mem_nil,or_false,false_or,not_or,ne_eq,List.nil_append,List.cons_append,true_and,and_true,false_and,and_false,not_true_eq_false,not_false_eq_true,or_true,true_or] at hb ⊢;omega) ⟨0,hm,rfl,O,trivial⟩ ?_ ?_ ?_
 · rintro l rk x fp w8 hl hx _ K8 hF hln Xy
   clear hm
   obtain⟨⟨e6,e7⟩,hxe,rfl⟩:=map_some hx
   have ah:Kz [(1,b5)] w7 w8:=Gv K8 (by intro k hk;simp only[Ze,and_true,List.mem_cons,List.mem_append,Xt,List.not_mem_nil,or_false,false_or,not_or,ne_eq,List.nil_append,List.cons_append,true_and,and_true,false_and,and_false,not_true_eq_false,not_false_eq_true,or_true,true_or] at hk ⊢;omega)
   have ai:=K8.size
   refine Jb<|⟨rfl,(Gr.refl _),?_⟩
   rintro w9 M9 ⟨a5,hm,rfl,g,-⟩
   have aj:=M9.size
   have X:=g.lt
   replace hm:=Am hm hxe
   generalize hnx1:Ku Qaa Qa9 (List.drop (rk+1) l3)=ak at hm
   unfold Qaa at hm
   try dsimp only at hm
   refine Xc<|qg 3 rfl<|qv rfl (Qf (v:=.int .i64 a5) Qe rfl g rfl)<|qv rfl (Xn (k:=.i64) (a:=a5) (b:=1) rfl rfl)<|qe rfl (Zs (cs':=[.int .i64 (Qb (a5+1))]) (Qe).siz rfl rfl rfl g rfl rfl) ?_
   rintro _ A ⟨B,C⟩
   have al:=C.size
   refine Qj<|Xi ?_
   have K_23:Kz [(1,b5)] w9 A:=(Kz.md (Kz.refl _ _) C)
   have Kq23:Kp ([b5]) w9 A:=Rj K_23 (by intro k hk;simp only[Ze,and_true,List.mem_cons,List.mem_append,Xt,List.not_mem_nil,or_false,false_or,not_or,ne_eq,List.nil_append,List.cons_append,true_and,and_true,false_and,and_false,not_true_eq_false,not_false_eq_true,or_true,true_or] at hk ⊢;omega)
   subst hnx1
   exact⟨Kq23,([b5]),(by intro c hc;simp only[List.mem_cons,List.mem_append,Xt,List.not_mem_nil,or_false,false_or,not_or,ne_eq,List.nil_append,List.cons_append,true_and,and_true,false_and,and_false,not_true_eq_false,not_false_eq_true,or_true,true_or] at hc ⊢;omega),⟨Qb (a5+1),hm,rfl,B,trivial⟩⟩
 · clear hm;rintro j fp n P m D ⟨a5,hm,rfl,i,-⟩ F
   replace hm:=An hm
   have G:Kz [(1,b5)] w7 n:=Gv F (by intro k hk;simp only[Ze,and_true,List.mem_cons,List.mem_append,Xt,List.not_mem_nil,or_false,false_or,not_or,ne_eq,List.nil_append,List.cons_append,true_and,and_true,false_and,and_false,not_true_eq_false,not_false_eq_true,or_true,true_or] at hk ⊢;omega)
   have am:=F.size
   have Y:=Df.lt (w:=n) m
   simp only[List.mem_cons,List.mem_append,Xt,List.not_mem_nil,or_false,false_or,not_or,ne_eq,List.nil_append,List.cons_append,true_and,and_true,false_and,and_false,not_true_eq_false,not_false_eq_true,or_true,true_or,not_and] at D
   have Z:=i.lt
   unfold Qa9 at hm
   try dsimp only at hm
   refine Xi<|Xa<|qs 3 rfl<|qv rfl (Qf (v:=.int .i64 a5) Qe rfl i rfl)<|qn 2 rfl ?_
   refine Qa<|Qp ?_
   have DL27:=m
   have H:=Md.put (w:=n) j (.deferred none)
   have zL27:=H.size
   have Q:Gr w (n.putObj j (.deferred none)):=((N.kz G).md H)
   cases hm
   refine⟨_,_,⟨j,rfl,DL27,rfl⟩,Jk rfl (Ql rfl) (Ql rfl),?_⟩
   exact⟨rfl,Q⟩
 rintro _ _ _ _ _ _ _ _ _ h _
 exact h.elim
theorem Qkn {p0 p1 r}(hm:Sf p0 p1=some r){w:World}:
 Calls Tryz.prog 9 [.agg (Xg.cs p0).toArray,bv p1].toArray w fun e w'=>∃ v,e=.returned v∧(∃ ur0_7 zr0_7 gr0_7,v=.tuple [.agg (Qq.cs r.1 ur0_7).toArray,.int .i64 r.2].toArray∧Qk w' zr0_7 gr0_7 3 1 ur0_7 (r.1.Witness.map ic)∧Xb (zr0_7=0∨w.heap.size≤gr0_7)∧Gr w w'):=by
 unfold Sf at hm
 refine Xj 112 Tryz.func9 rfl rfl rfl<|qs 3 rfl<|qe rfl (Xq (cs:=Xg.cs p0) rfl rfl) ?_
 rintro _ w1 ⟨b1,rfl,bK,az,G1⟩
 have z1:=G1.size
 have bY:=az.lt
 refine qe rfl (Zz (cs:=Qq.cs (Qq.mk 0#8 false 0 0 0 0 0 []) (.slice none 0 0)) Pf rfl) ?_
 rintro _ w2 ⟨b2,rfl,bL,K,G2⟩
 have z3:=G2.size
 have bZ:=K.lt
 refine qm rfl<|Qa<|Qh<|qs 3 rfl ?_
 have B5:=(az.gr G2)
 refine qv rfl (Xm Wx rfl B5 rfl) ?_
 obtain⟨x1,a1,hm⟩:=Qc hm
 refine qe rfl (eC Qps rfl (Qtg a1)) ?_
 rintro _ w3 ⟨rfl,G3⟩
 have z6:=G3.size
 refine qm rfl<|qd 2 rfl<|qm rfl<|qv rfl (Ke (a:=x1) (b:=0) rfl rfl)<|Qa ?_
 refine Zq hm rfl (fun c1 hm=>?_) (fun c1 hm=>?_)
 · refine qs 4 rfl<|qv rfl (Kl (cs:=Qq.cs (Qq.mk 0#8 false 0 0 0 0 0 []) (.slice none 0 0)) Es rfl rfl)<|qm rfl ?_
   have B7:=(K.gr G3)
   refine qe rfl (Jh Zf rfl rfl (Qq.cs_ones _ _ rfl) B7 rfl rfl) ?_
   rintro _ w4 ⟨a6,M4⟩
   have z8:=M4.size
   refine qm rfl<|qb ?_
   have X9:=(((((Gr.refl w).trans G1).trans G2).trans G3).md M4)
   cases hm
   exact⟨_,_,rfl,Jk rfl (Wc Zf rfl a6 rfl) (Ql rfl),(.slice none 0 0),0,0,rfl,(Kx _ 0 3 1),⟨.inl rfl⟩,X9⟩
 refine qu<|qs 4 rfl<|qm rfl<|qv rfl (Kl (cs:=Qq.cs (Qq.mk p1 false 0 0 0 0 0 []) (.slice none 0 0)) Es rfl rfl)<|qe rfl (Zz (cs:=Qq.cs (Qq.mk 0#8 false 0 0 0 0 0 []) (.slice none 0 0)) Pf rfl) ?_
 rintro _ w5 ⟨b5,rfl,bM,aA,G5⟩
 have b0:=G5.size
 have bN:=aA.lt
 refine qe rfl (Jh Zf rfl rfl (Qq.cs_ones _ _ rfl) aA rfl rfl) ?_
 rintro _ w6 ⟨ac,M6⟩
 have b3:=M6.size
 refine Qa ?_
 have ad:=((((((Gr.refl w).trans G1).trans G2).trans G3).trans G5).md M6)
 refine qj (β:=Int × Int × Int × List Int × Value × Nat × Nat) ([5]++rg 8 6++rg 22 56) (fun⟨a2,a3,a4,a5,vy6,zy6,gy6⟩=>[(5,.int .i64 0)]) (fun⟨a2,a3,a4,a5,vy6,zy6,gy6⟩ wr=>(Mu p0 p1 a2 a3 a4 a5=some r)∧Qk wr zy6 gy6 3 1 vy6 (a5.map ic)∧Xb (zy6=0∨w6.heap.size≤gy6)∧Bx wr b5 32 (Qq.cs (Qq.mk p1 false a2 a3 0 a4 0 a5) vy6)∧Kz [(1,b5)] w6 wr) ?_ ?_
 · refine Xc<|qj (β:=Bool) (rg 50 7) (fun a8=>[(50,.bool a8)]) (fun a8 wr=>(Aw p0 p1 a8=some r)∧Kz [] w6 wr) ?_ ?_
   · refine qg 7 rfl<|qm rfl<|qv rfl (Qng (p:=p1) (q:=1#8) rfl rfl)<|Zm hm rfl (Qt rfl) (fun c5 hm=>?_) (fun c5 hm=>?_)
     · refine qn 4 rfl<|Qj ?_
       exact⟨rfl,true,Qi,hm,Qw⟩
     refine qm rfl<|qv rfl (Qnb (p:=p1) (q:=4#8) rfl rfl)<|qn 2 rfl<|Qj ?_
     exact⟨rfl,(decide (4#8<p1)),Qi,hm,Qw⟩
   clear hm;rintro a8 b4 ⟨hm,g⟩
   have b6:=g.size
   unfold Aw at hm
   refine Zh hm rfl (fun c2 hm=>?_) (fun c2 hm=>?_)
   · refine qs 3 rfl<|qv rfl (Kl (cs:=Qq.cs (Qq.mk 0#8 false 0 0 0 0 0 []) (.slice none 0 0)) Es rfl rfl) ?_
     have Y1:=Gr.trans G3 G5
     have a7:=(((K.gr Y1).md M6).kz g)
     refine qe rfl (Jh Zf rfl rfl (Qq.cs_ones _ _ rfl) a7 rfl rfl) ?_
     rintro _ b7 ⟨aB,aC⟩
     have b8:=aC.size
     refine qm rfl<|Qa<|Qp<|Zk<|Xp ?_
     have a9:=((ad.kz g).md aC)
     cases hm
     exact⟨_,_,rfl,Jk rfl (Wc Zf rfl aB rfl) (Ql rfl),(.slice none 0 0),0,0,rfl,(Kx _ 0 3 1),⟨.inl rfl⟩,a9⟩
   refine qs 3 rfl<|qm rfl<|qv rfl (Jz (p:=p1) (q:=4#8) rfl rfl)<|qm rfl<|Qa<|Zq hm rfl (fun c3 hm=>?_) (fun c3 hm=>?_)
   · refine qs 11 rfl<|qm rfl<|qv rfl (Qg Du rfl) ?_
     have Y2:=Gr.trans G3 G5
     have ae:=(((B5.gr Y2).md M6).kz g)
     refine qv rfl (Qf (v:=.int .i64 p0.Depth) Qe rfl ae rfl)<|qv rfl (Qg Th rfl)<|qv rfl (Qf (v:=.int .i64 p0.Revoked) Qe rfl ae rfl)<|qv rfl (Qa1 rfl rfl)<|qv rfl (Qg Qja rfl)<|qv rfl (Eh (vs:=Xz.cs p0.Group) Tc rfl ae rfl rfl)<|qv rfl (Kl (cs:=Qo.cs (Qo.mk p1 p0.Depth (Vp p0.Revoked 1) p0.Group)) Cf rfl (Hu rfl rfl rfl (Hu rfl rfl rfl (Hu rfl rfl rfl (Hu rfl rfl rfl rfl))))) ?_
     refine qe rfl (Zz (cs:=Qo.cs (Qo.mk 0#8 0 0 (Xz.mk 0#64 0#64 0#64))) Bt rfl) ?_
     rintro _ b9 ⟨ca,rfl,ba,T,F⟩
     have cb:=F.size
     have bO:=T.lt
     refine qe rfl (Jh Zj rfl rfl rfl T rfl rfl) ?_
     rintro _ cc ⟨U,G⟩
     have cd:=G.size
     refine Qa<|Qh<|qs 3 rfl<|qv rfl (Xm Zj rfl U rfl) ?_
     obtain⟨x9,bb,hm⟩:=Qc hm
     refine qe rfl (eC Qpt rfl (Qtx bb)) ?_
     rintro _ ce ⟨rfl,E⟩
     have cf:=E.size
     refine qv rfl (Ke (a:=x9) (b:=0) rfl rfl)<|Qa<|Zq hm rfl (fun c4 hm=>?_) (fun c4 hm=>?_)
     · refine qs 3 rfl ?_
       have bc:=((((ac.kz g).gr F).md G).gr E)
       refine qv rfl (Xm Zf rfl bc rfl) ?_
       have bd:=((((((K.gr Y2).md M6).kz g).gr F).md G).gr E)
       refine qe rfl (Jh Zf rfl rfl (Qq.cs_ones _ _ rfl) bd rfl rfl) ?_
       rintro _ cg ⟨aD,aE⟩
       have ch:=aE.size
       refine qm rfl<|qb<|Zk<|Xp ?_
       have be:=(((((ad.kz g).trans F).md G).trans E).md aE)
       cases hm
       exact⟨_,_,rfl,Jk rfl (Wc Zf rfl aD rfl) (Ql rfl),(.slice none 0 0),0,0,rfl,(Kx _ 0 3 1),⟨.inl rfl⟩,be⟩
     refine qu<|qg 6 rfl<|qv rfl (Qg Tl rfl) ?_
     have bf:=(U.gr E)
     refine qv rfl (Qf (v:=.int .i64 (Vp p0.Revoked 1)) Qe rfl bf rfl)<|qv rfl (Qg Lr rfl) ?_
     have bg:=((((ac.kz g).gr F).md G).gr E)
     refine qe rfl (Zs (cs':=Qq.cs (Qq.mk p1 false 0 (Vp p0.Revoked 1) 0 0 0 []) (.slice none 0 0)) (Qe).siz rfl rfl rfl bg rfl rfl) ?_
     rintro _ ci ⟨aF,aG⟩
     have cj:=aG.size
     refine qv rfl (Qg Py rfl)<|qe rfl (Zs (cs':=Qq.cs (Qq.mk p1 false 0 (Vp p0.Revoked 1) 0 8 0 []) (.slice none 0 0)) (Qe).siz rfl rfl rfl aF rfl rfl) ?_
     rintro _ ck ⟨aH,aI⟩
     have cl:=aI.size
     refine Qj<|Xi ?_
     exact⟨rfl,⟨0,Vp p0.Revoked 1,8,[],(.slice none 0 0),0,0⟩,Qi,hm,(Kx _ 0 3 1),⟨(.inl rfl)⟩,aH,((((((Kz.kz (Kz.refl _ _) g).gr F).md G).gr E).md aG).md aI)⟩
   refine qs 6 rfl<|qm rfl<|qv rfl (Qg Du rfl) ?_
   have Y3:=Gr.trans G3 G5
   have aJ:=(((B5.gr Y3).md M6).kz g)
   refine qv rfl (Qf (v:=.int .i64 p0.Depth) Qe rfl aJ rfl)<|qv rfl (Kl (cs:=Qo.cs (Qo.mk p1 p0.Depth 0 (Xz.mk 0#64 0#64 0#64))) Cf rfl rfl)<|qe rfl (Zz (cs:=Qo.cs (Qo.mk 0#8 0 0 (Xz.mk 0#64 0#64 0#64))) Bt rfl) ?_
   rintro _ cm ⟨cn,rfl,bh,V,P⟩
   have co:=P.size
   have bP:=V.lt
   refine qe rfl (Jh Zj rfl rfl rfl V rfl rfl) ?_
   rintro _ cp ⟨W,Q⟩
   have cq:=Q.size
   refine qd 3 rfl<|qv rfl (Xm Zj rfl W rfl) ?_
   obtain⟨bi,aK,hm⟩:=Qc hm
   refine qe rfl (eC Qe7 rfl (Qfc aK)) ?_
   rintro _ cr ⟨ax,af,ag,ah,ai,aj,ak,al,am,an,X,Y,Z,rfl,t,ay,h,i,ao,j,l,ap,m,n,aq,d,f,aa,bj,bk,bm,bo,bp,bq,L⟩
   have ct:=L.size
   have bQ:=h.lth
   have bR:=j.lth
   have bS:=m.lth
   have bT:=d.lth
   have bU:=t.lt
   refine qm rfl<|qd 7 rfl ?_
   have aL:=(W.gr L)
   refine qv rfl (Xm Zj rfl aL rfl) ?_
   obtain⟨R,aM,hm⟩:=Qc hm
   refine qe rfl (eC Qpu rfl (Qoo aM)) ?_
   rintro _ cu ⟨rfl,s⟩
   have cv:=s.size
   refine qn 5 rfl<|Qa<|Qh ?_
   refine qg 1 rfl<|qm rfl<|qd 10 rfl<|qm rfl<|qv rfl (Qg Th rfl) ?_
   have br:=((((aJ.gr P).md Q).gr L).gr s)
   refine qv rfl (Qf (v:=.int .i64 p0.Revoked) Qe rfl br rfl) ?_
   have aN:=(t.gr s)
   have aO:=(h.gr s)
   have aP:=(j.gr s)
   have aQ:=(m.gr s)
   have aR:=(d.gr s)
   obtain⟨M,aS,hm⟩:=Qc hm
   refine qe rfl (eC Qe8 rfl (Qfl aS aN (Qk.rd aO) (Qk.rd aP) (Qk.rd aQ) (Qk.rd aR))) ?_
   rintro _ cw ⟨rfl,z⟩
   have cx:=z.size
   refine qn 3 rfl<|qv rfl (Qg Ti rfl) ?_
   have bs:=((((((ac.kz g).gr P).md Q).gr L).gr s).gr z)
   refine qe rfl (Zs (cs':=Qq.cs (Qq.mk p1 false M.1 0 0 0 0 []) (.slice none 0 0)) (Qe).siz rfl rfl rfl bs rfl rfl) ?_
   rintro _ cy ⟨aT,C⟩
   have cz:=C.size
   refine qm rfl<|qd 4 rfl<|qm rfl<|qv rfl (Kb (k:=.i64) (a:=16) (b:=R.1) rfl rfl)<|qv rfl (Qg Py rfl) ?_
   refine qe rfl (Zs (cs':=Qq.cs (Qq.mk p1 false M.1 0 0 (Qb (16*R.1)) 0 []) (.slice none 0 0)) (Qe).siz rfl rfl rfl aT rfl rfl) ?_
   rintro _ cA ⟨aU,D⟩
   have cB:=D.size
   refine Qa<|qg 7 rfl<|qm rfl<|qv rfl (Qg Ji rfl) ?_
   have bu:=((((aL.gr s).gr z).md C).md D)
   refine qv rfl (Qf (v:=.int .i64 p0.Depth) Qe rfl bu rfl)<|qm rfl ?_
   have bw:=(((aN.gr z).md C).md D)
   have bx:=(((aO.gr z).md C (Qu i)).md D (Qu i))
   have bz:=(((aP.gr z).md C (Qu l)).md D (Qu l))
   have bA:=(((aQ.gr z).md C (Qu n)).md D (Qu n))
   have bB:=(((aR.gr z).md C (Qu f)).md D (Qu f))
   obtain⟨aV,aW,hm⟩:=Qc hm
   refine qe rfl (eC Qao rfl (Qkr bi ([]:List Int) 1 0 p0.Depth M.2 _ _ _ _ _ _ _ _ _ _ _ _ _ _ _ _ _ (.slice none 0 0) 0 0 _ aW _ bw (Qk.rd bx) (Qk.rd bz) (Qk.rd bA) (Qk.rd bB) (Kx _ 0 3 1) ⟨Qn⟩ ⟨Qn⟩ ⟨Qn⟩ ⟨Qn⟩ ⟨Qn⟩)) ?_
   rintro u cC ⟨_,H,I,rfl,c,y,ar⟩
   have cD:=ar.size
   have bV:=c.lth
   refine qv rfl (Qg Ht rfl) ?_
   have bC:=(aU.kz ar)
   refine qe rfl (Zs (cs':=Qq.cs (Qq.mk p1 false M.1 0 0 (Qb (16*R.1)) 0 aV) u) (Zp).siz rfl rfl (Qk.oneB c) bC rfl rfl) ?_
   rintro _ bD ⟨aX,au⟩
   have cE:=au.size
   refine Qj<|Xi ?_
   have K_78:Kz [(1,b5)] w6 bD:=((((((((((Kz.kz (Kz.refl _ _) g).gr P).md Q).gr L).gr s).gr z).md C).md D).kz ar).md au)
   have bE:=(c.md au (Xo y (.inl rfl)))
   exact⟨rfl,⟨M.1,0,Qb (16*R.1),aV,u,H,I⟩,Qi,hm,bE,⟨(Xu (A:=(fun x=>w6.heap.size≤x)) y (.inl rfl))⟩,aX,K_78⟩
 clear hm;rintro⟨a2,a3,a4,a5,vy6,zy6,gy6⟩ w7 ⟨hm,N,o,B,K7⟩
 have cF:=K7.size
 have bW:=N.lth
 have bX:=B.lt
 unfold Mu at hm
 refine qs 10 rfl<|qv rfl (Qg Ti rfl)<|qv rfl (Qf (v:=.int .i64 a2) Qe rfl B rfl)<|qv rfl (Kb (k:=.i64) (a:=18) (b:=a2) rfl rfl)<|qv rfl (Xn (k:=.i64) (a:=67) (b:=Qb (18*a2)) rfl rfl)<|qv rfl (Qg Lr rfl) ?_
 refine qv rfl (Qf (v:=.int .i64 a3) Qe rfl B rfl)<|qv rfl (Kb (k:=.i64) (a:=16) (b:=a3) rfl rfl)<|qv rfl (Xn (k:=.i64) (a:=Qb (67+(Qb (18*a2)))) (b:=Qb (16*a3)) rfl rfl)<|qv rfl (Qg Lu rfl)<|qe rfl (Zs (cs':=Qq.cs (Qq.mk p1 false a2 a3 (Qb ((Qb (67+(Qb (18*a2))))+(Qb (16*a3)))) a4 0 a5) vy6) (Qe).siz rfl rfl rfl B rfl rfl) ?_
 rintro _ w8 ⟨bF,M8⟩
 have cG:=M8.size
 refine Qa<|Qh<|dw [([b5]),([])] [(18,[1])] (.leaf [(0,10),(1,10),(2,10),(3,10),(4,10),(5,10),(6,11),(7,10),(8,10),(9,10),(10,10),(11,11),(12,10),(13,10),(14,10),(15,10),(16,10),(17,10),(18,0)]) ?_
 intro w9 G9 cH
 refine Jp<|dh 0 rfl rfl (fun w hS=>Qg Ag rfl) ?_
 have Y4:=Gr.trans G3 G5
 have O:=(((((B5.gr Y4).md M6).kz K7).md M8).gr G9)
 refine dh 0 rfl rfl (fun w hS=>Qf (v:=.int .i64 p0.Headers) Qe rfl (Bx.kp O hS) rfl)<|dh 0 rfl rfl (fun w hS=>Qg Ah rfl)<|dh 0 rfl rfl (fun w hS=>Qf (v:=.int .i64 p0.HeaderPrice) Qe rfl (Bx.kp O hS) rfl)<|dh 0 rfl rfl (fun w hS=>Kb (k:=.i64) (a:=p0.Headers) (b:=p0.HeaderPrice) rfl rfl)<|dh 0 rfl rfl (fun w hS=>Qg Lu rfl) ?_
 have av:=(bF.gr G9)
 refine dh 1 rfl rfl (fun w hS=>Qf (v:=.int .i64 (Qb ((Qb (67+(Qb (18*a2))))+(Qb (16*a3))))) Qe rfl (Bx.kp av hS) rfl)<|dh 0 rfl rfl (fun w hS=>Kb (k:=.i64) (a:=Qb (p0.Headers*p0.HeaderPrice)) (b:=Qb ((Qb (67+(Qb (18*a2))))+(Qb (16*a3)))) rfl rfl)<|dh 0 rfl rfl (fun w hS=>Qg Ai rfl)<|dh 0 rfl rfl (fun w hS=>Qf (v:=.int .i64 p0.StoragePrice) Qe rfl (Bx.kp O hS) rfl)<|dh 0 rfl rfl (fun w hS=>Qg Py rfl)<|dh 1 rfl rfl (fun w hS=>Qf (v:=.int .i64 a4) Qe rfl (Bx.kp av hS) rfl)<|dh 0 rfl rfl (fun w hS=>Kb (k:=.i64) (a:=p0.StoragePrice) (b:=a4) rfl rfl) ?_
 refine dh 0 rfl rfl (fun w hS=>Qg Du rfl)<|dh 0 rfl rfl (fun w hS=>Qf (v:=.int .i64 p0.Depth) Qe rfl (Bx.kp O hS) rfl) ?_
 obtain⟨nn7,hnn7,hm⟩:=Qc hm
 refine dh 0 rfl rfl (fun w hS=>Hi (a:=Qb (p0.StoragePrice*a4)) (b:=p0.Depth) rfl rfl hnn7)<|dh 0 rfl rfl (fun w hS=>Xn (k:=.i64) (a:=Qb ((Qb (p0.Headers*p0.HeaderPrice))*(Qb ((Qb (67+(Qb (18*a2))))+(Qb (16*a3)))))) (b:=Xr (Qb (p0.StoragePrice*a4)) nn7) rfl rfl)<|dh 0 rfl rfl (fun w hS=>Qg Tj rfl)<|qz [(1,b5)] rfl (Zs (cs':=Qq.cs (Qq.mk p1 false a2 a3 (Qb ((Qb (67+(Qb (18*a2))))+(Qb (16*a3)))) a4 (Qb ((Qb ((Qb (p0.Headers*p0.HeaderPrice))*(Qb ((Qb (67+(Qb (18*a2))))+(Qb (16*a3))))))+(Xr (Qb (p0.StoragePrice*a4)) nn7))) a5) vy6) (Qe).siz rfl rfl rfl av rfl rfl) ⟨fun _=>Qn,nofun,trivial⟩ ?_
 rintro _ cI ⟨ab,J⟩
 have cJ:=J.size
 refine kM J<|qd 7 rfl<|qv rfl (Qg Py rfl)<|qv rfl (Qf (v:=.int .i64 a4) Qe rfl ab rfl)<|qv rfl (Qg Af rfl) ?_
 have bG:=(O.md J)
 refine qv rfl (Qf (v:=.int .i64 p0.Storage) Qe rfl bG rfl)<|qv rfl (Yr (a:=a4) (b:=p0.Storage) rfl rfl)<|qv rfl (Qg Lq rfl)<|qe rfl (Zs (cs':=Qq.cs (Qq.mk p1 (decide (a4≤p0.Storage)) a2 a3 (Qb ((Qb (67+(Qb (18*a2))))+(Qb (16*a3)))) a4 (Qb ((Qb ((Qb (p0.Headers*p0.HeaderPrice))*(Qb ((Qb (67+(Qb (18*a2))))+(Qb (16*a3))))))+(Xr (Qb (p0.StoragePrice*a4)) nn7))) a5) vy6) (He).siz rfl rfl rfl ab rfl rfl) ?_
 rintro _ cK ⟨aY,S⟩
 have cL:=S.size
 refine qd 3 rfl<|qv rfl (Xm Zf rfl aY rfl) ?_
 have bH:=(((((((K.gr Y4).md M6).kz K7).md M8).gr G9).md J).md S)
 have aZ:=((((N.md M8 (Qu o)).gr G9).md J (Qu o)).md S (Qu o))
 refine qe rfl (Jh Zf rfl rfl (Qq.cs_ones _ _ (Qk.oneB aZ)) bH rfl rfl) ?_
 rintro _ cM ⟨a0,aw⟩
 have cN:=aw.size
 refine qm rfl<|Qa<|Qp ?_
 have bI:=(aZ.md aw (Qu o))
 have bJ:=((((((ad.kz K7).md M8).trans G9).md J).md S).md aw)
 cases hm
 exact⟨_,_,rfl,Jk rfl (Wc Zf rfl a0 rfl) (Ql rfl),vy6,zy6,gy6,rfl,bI,⟨(Xe (A:=(fun x=>w.heap.size≤x)) o)⟩,bJ⟩
theorem Qko {p0 r}(hm:Sg p0=some r){w:World}:
 Calls Tryz.prog 15 [.agg (Xg.cs p0).toArray].toArray w fun e w'=>∃ v,e=.returned v∧(∃ ur0_0 zr0_0 gr0_0 Fr0_0,v=.tuple [.agg (Xk.cs r.1 ur0_0).toArray,.int .i64 r.2].toArray∧Xw Yx w' zr0_0 gr0_0 32 ur0_0 Fr0_0 r.1.Choices∧Xb (zr0_0=0∨w.heap.size≤gr0_0)∧(∀ x∈Fr0_0,Pv [] [] w.heap.size x)∧Gr w w'):=by
 unfold Sg at hm
 refine Xj 51 Tryz.func15 rfl rfl rfl<|qs 3 rfl<|qe rfl (Xq (cs:=Xg.cs p0) rfl rfl) ?_
 rintro _ w1 ⟨b1,rfl,aE,V,G1⟩
 have z1:=G1.size
 have aQ:=V.lt
 refine qe rfl (Zz (cs:=Xk.cs (Xk.mk [] 0#8) (.slice none 0 0)) Nu rfl) ?_
 rintro _ w2 ⟨b2,rfl,aF,O,G2⟩
 have z3:=G2.size
 have aR:=O.lt
 refine qm rfl<|qd 1 rfl<|qe rfl (Zz (cs:=Xk.cs (Xk.mk [] 0#8) (.slice none 0 0)) Nu rfl) ?_
 rintro _ w3 ⟨b3,rfl,aG,W,G3⟩
 have z5:=G3.size
 have aS:=W.lt
 refine Qa<|Qh<|qs 1 rfl<|qm rfl<|Qa<|Xc ?_
 have X7:=((((Gr.refl w).trans G1).trans G2).trans G3)
 refine Zv (α:=Nat × BitVec 8 × List Qq × BitVec 8 × Value × Nat × Nat × List Nat) ([3]++rg 5 45) (fun⟨n1,a5,a6,a7,vy8,zy8,gy8,Fy8⟩=>[(3,.int .i64 0),(5,bv a5)]) (fun⟨n1,a5,a6,a7,vy8,zy8,gy8,Fy8⟩ wr=>(Qs (Rt p0) n1 (a5,a6,a7)=some r)∧Xw Yx wr zy8 gy8 32 vy8 Fy8 a6∧Xb (zy8=0∨w3.heap.size≤gy8)∧(∀ x∈Fy8,Pv [] [] w3.heap.size x)∧Bx wr b3 29 (Xk.cs (Xk.mk a6 a7) vy8)∧Kz [(1,b3)] w3 wr) (fun⟨n1,a5,a6,a7,vy8,zy8,gy8,Fy8⟩=>n1) ⟨Qy,1#8,[],0#8,(.slice none 0 0),0,0,[]⟩ ?_ ?_ ?_
 · exact Qi
 · exact⟨hm,(Qbc Yx _ 0 32),⟨(.inl rfl)⟩,Vo,W,Kz.refl _ _⟩
 clear hm;rintro⟨n1,a5,a6,a7,vy8,zy8,gy8,Fy8⟩ w4 ⟨hm,g,c,f,B,K4⟩
 have z8:=K4.size
 have ak:=g.flt
 have E:=g.lth
 have aH:=B.lt
 have hb:=Zu hm;clear hm;obtain⟨n1,rfl,hm⟩:=hb
 generalize G:Qs (Rt p0) n1=X at hm
 unfold Rt at hm
 try dsimp only at hm
 refine Qh<|qs 2 rfl<|qm rfl<|qv rfl (Qgr (p:=a5) (q:=4#8) rfl rfl)<|Qa<|Zy hm rfl (fun c1 hm=>?_) (fun c1 hm=>?_)
 · refine Zd<|Xh<|Xh<|Zc<|Xa<|qs 3 rfl ?_
   refine qv rfl (Xm Wy rfl B rfl) ?_
   have al:=((O.gr G3).kz K4)
   refine qe rfl (Jh Wy rfl rfl (Xk.cs_ones _ _ (Xw.oneB g)) al rfl rfl) ?_
   rintro _ aT ⟨Y,P⟩
   have aU:=P.size
   refine qm rfl<|Qa<|Qp ?_
   have am:=(g.md P (Qd (Qu (b:=b2) c)) (Yj (A:=fun x=>1=0∨x≠b2) f Vo Yl (fun x hx=>.inr (by omega))))
   have an:=((X7.kz K4).md P)
   cases hm
   exact⟨_,_,rfl,Jk rfl (Wc Wy rfl Y rfl) (Ql rfl),vy8,zy8,gy8,Fy8,rfl,am,⟨(Xe (A:=(fun x=>w.heap.size≤x)) c)⟩,(Yj (A:=(Pv [] [] w.heap.size)) f Vo Yl (fun x hx=>.inr (.inr (by omega)))),an⟩
 refine qu<|Qh<|Xc<|qs 9 rfl ?_
 have ao:=(((V.gr G2).gr G3).kz K4)
 refine qv rfl (Xm Wx rfl ao rfl)<|qm rfl ?_
 obtain⟨x9,ap,hm⟩:=Qc hm
 refine qe rfl (eC Qiv rfl (Qkn ap)) ?_
 rintro _ w5 ⟨H,h,j,rfl,s,d,G5⟩
 have aV:=G5.size
 have Z:=s.lth
 refine qn 3 rfl<|qe rfl (Zz (cs:=Qq.cs (Qq.mk 0#8 false 0 0 0 0 0 []) (.slice none 0 0)) Pf rfl) ?_
 rintro _ w6 ⟨b6,rfl,aI,aa,G6⟩
 have aW:=G6.size
 have aJ:=aa.lt
 have ab:=(s.gr G6)
 refine qe rfl (Jh Zf rfl rfl (Qq.cs_ones _ _ (Qk.oneB ab)) aa rfl rfl) ?_
 rintro _ w7 ⟨ac,M7⟩
 have aX:=M7.size
 refine qm rfl<|Qa<|Qh<|qs 2 rfl<|qm rfl<|qv rfl (Ke (a:=x9.2) (b:=0) rfl rfl) ?_
 refine Qa<|Zq hm rfl (fun c2 hm=>?_) (fun c2 hm=>?_)
 · refine qs 4 rfl<|qv rfl (Kl (cs:=Xk.cs (Xk.mk [] 0#8) (.slice none 0 0)) Qoe rfl rfl)<|qm rfl ?_
   have Y1:=Gr.trans G5 G6
   have aq:=((((O.gr G3).kz K4).gr Y1).md M7)
   refine qe rfl (Jh Wy rfl rfl (Xk.cs_ones _ _ rfl) aq rfl rfl) ?_
   rintro _ w8 ⟨ar,M8⟩
   have aY:=M8.size
   refine qm rfl<|qb<|Zk<|Xp<|Xp ?_
   refine Zk<|Xp ?_
   have au:=((((X7.kz K4).trans Y1).md M7).md M8)
   cases hm
   exact⟨_,_,rfl,Jk rfl (Wc Wy rfl ar rfl) (Ql rfl),(.slice none 0 0),0,0,[],rfl,(Qbc Yx _ 0 32),⟨.inl rfl⟩,Vo,au⟩
 refine qu<|qs 7 rfl<|qv rfl (Qg Vc rfl) ?_
 have Y2:=Gr.trans G5 G6
 have ad:=((B.gr Y2).md M7)
 refine qv rfl (Qf (v:=vy8) Kw rfl ad rfl)<|qv rfl (Xm Zf rfl ac rfl) ?_
 have ae:=(ab.md M7 (Xs Z))
 refine qe rfl (Qeg (R:=Yx) (F:=(zf h j)) [(x9.1,H)] Qdo rfl rfl rfl rfl rfl (by simp only[List.mem_cons,List.not_mem_nil,or_false];rintro p rfl;exact⟨_,_,_,(Qk.rd ae),(Qes _ _)⟩) (Qgw ae.lth.o)) ?_
 rintro aZ w9 ⟨a0,aK,Q,G9⟩
 have a1:=G9.size
 have aL:=Q.flt
 have aM:=Q.lth
 have av:=(((g.gr Y2).md M7 (Qd (Xs (b:=b6) E)) (fun x hx=>.inr (by have:=ak x hx;omega))).gr G9)
 obtain⟨I,af,hm⟩:=Qc hm
 refine qe rfl (Qef (l:=a6) (m:=[x9.1]) Qdm rfl rfl av (Xw.rd Q) af (by decide) (Yz (A:=fun x=>zy8=0∨x≠gy8) (Xe (A:=(fun x=>zy8=0∨x≠gy8)) d (fun x hx=>(Qd E.o))))) ?_
 rintro t a2 ⟨L,M,y,k,aN,n⟩
 have a3:=k.size
 have aO:=y.flt
 refine qv rfl (Qg Vc rfl) ?_
 have aw:=((ad.gr G9).ka k (Qd (Qu (b:=b3) c)))
 refine qe rfl (Zs (cs':=Xk.cs (Xk.mk I a7) t) (Kw).siz rfl rfl (Xw.oneB y) aw rfl rfl) ?_
 rintro _ ax ⟨J,z⟩
 have a4:=z.size
 refine Qa ?_
 have a8:=((((((X7.kz K4).trans Y2).md M7).trans G9).ka k (Qd (Xe (A:=(fun x=>w.heap.size≤x)) c))).md z)
 refine qj (β:=Bool) (rg 28 20) (fun K=>[(47,.bool K)]) (fun K wr=>(Mv a5 a7 X I K=some r)∧Kz [] ax wr) ?_ ?_
 · refine dw [([])] [] (.leaf [(0,10),(1,10),(2,10),(3,10),(4,10),(5,10),(6,10),(7,10),(8,10),(9,10),(10,10),(11,10),(12,10),(13,10),(14,10),(15,10),(16,10),(17,10),(18,10),(19,10)]) ?_
   intro ag D aP
   refine Jp<|dh 0 rfl rfl (fun w hS=>Qg Lq rfl) ?_
   have ah:=((((ac.gr G9).ka k (Qd (Xs (b:=b6) E))).md z).gr D)
   refine dh 0 rfl rfl (fun w hS=>Qf (v:=.bool x9.1.Fits) He rfl (Bx.kp ah hS) rfl)<|Qky hm 0 rfl rfl (Kp.refl ([]) ag) (fun w hS=>Qt rfl) (fun c4 hm=>?_) (fun c4 hm=>?_)
   · refine dx 0 rfl rfl<|dx 0 rfl rfl<|dx 0 rfl rfl<|dx 0 rfl rfl<|dx 0 rfl rfl<|dx 0 rfl rfl<|dx 0 rfl rfl ?_
     refine dx 0 rfl rfl<|dx 0 rfl rfl<|dx 0 rfl rfl<|dx 0 rfl rfl<|dx 0 rfl rfl<|dx 0 rfl rfl<|dx 0 rfl rfl ?_
     refine dx 0 rfl rfl<|dx 0 rfl rfl<|dm 0 rfl rfl<|Qj ?_
     exact⟨rfl,false,Qi,hm,(Qw.gr D)⟩
   refine dh 0 rfl rfl (fun w hS=>Qg Hb rfl) ?_
   have S:=(J.gr D)
   refine dh 0 rfl rfl (fun w hS=>Qf (v:=bv a7) Zb rfl (Bx.kp S hS) rfl)<|dh 0 rfl rfl (fun w hS=>Jz (p:=a7) (q:=0#8) rfl rfl)<|Ni hm 0 rfl rfl (Kp.refl ([]) ag) (fun w hS=>Qt rfl) (fun c5 hm=>?_) (fun c5 hm=>?_)
   · refine dx 0 rfl rfl<|dx 0 rfl rfl<|dx 0 rfl rfl<|dx 0 rfl rfl<|dx 0 rfl rfl<|dx 0 rfl rfl<|dx 0 rfl rfl ?_
     refine dx 0 rfl rfl<|dx 0 rfl rfl<|dx 0 rfl rfl<|dx 0 rfl rfl<|dm 0 rfl rfl<|dm 0 rfl rfl<|Qj ?_
     exact⟨rfl,true,Qi,hm,(Qw.gr D)⟩
   refine dh 0 rfl rfl (fun w hS=>Qg Tj rfl)<|dh 0 rfl rfl (fun w hS=>Qf (v:=.int .i64 x9.1.Cost) Qe rfl (Bx.kp ah hS) rfl)<|dh 0 rfl rfl (fun w hS=>Qg Vc rfl)<|dh 0 rfl rfl (fun w hS=>Qf (v:=t) Kw rfl (Bx.kp S hS) rfl)<|dh 0 rfl rfl (fun w hS=>Qg Hb rfl)<|dh 0 rfl rfl (fun w hS=>Qf (v:=bv a7) Zb rfl (Bx.kp S hS) rfl)<|dh 0 rfl rfl (fun w hS=>Qnl (p:=a7) (q:=1#8) rfl rfl) ?_
   obtain⟨T,N,hm⟩:=Qc hm
   have ai:=((y.md z (Qd (Hz (b:=b3) n (Qu c))) (Hl (Yj (A:=fun x=>1=0∨x≠b3) f Vo Yl (fun x hx=>.inr (by omega))) (Yz (A:=fun x=>1=0∨x≠b3) (Nc (Xe (A:=(fun x=>x≠b3)) d))))).gr D)
   refine dh 0 rfl rfl (fun w hS=>Vu (i:=Jn (a7-1#8)) Tryz.underlying27 (Zf).siz rfl (Xw.rd (Xw.kp ai hS (.inr List.not_mem_nil) (fun _ _=>List.not_mem_nil))) rfl N)<|dh 0 rfl rfl (fun w hS=>Qg Tj rfl)<|dh 0 rfl rfl (fun w hS=>Qn8 (q:=6) (u:=.int .i64 T.Cost) Qe rfl (Xw.rd (Xw.kp ai hS (.inr List.not_mem_nil) (fun _ _=>List.not_mem_nil))) N (by first|rfl|omega) (fun _=>rfl))<|dh 0 rfl rfl (fun w hS=>Zo (a:=x9.1.Cost) (b:=T.Cost) rfl rfl)<|dm 0 rfl rfl<|dm 0 rfl rfl<|Qj ?_
   exact⟨rfl,(decide (x9.1.Cost<T.Cost)),Qi,hm,(Qw.gr D)⟩
 clear hm;rintro K ay ⟨hm,C⟩
 have a9:=C.size
 unfold Mv at hm
 refine Wz hm rfl (fun c3 hm=>?_) (fun c3 hm=>?_)
 · refine Jb<|Xi<|Xa<|qg 3 rfl<|qm rfl<|qv rfl (Qd8 (p:=a5) (q:=1#8) rfl rfl)<|qm rfl ?_
   refine Qj ?_
   have K_38:Kz [(1,b3)] w3 ay:=((((((K4.gr Y2).md M7).gr G9).ka k (Qd (Xe (A:=(fun x=>w3.heap.size≤x)) c))).md z).kz C)
   have az:=((y.md z (Qd (Hz (b:=b3) n (Qu c))) (Hl (Yj (A:=fun x=>1=0∨x≠b3) f Vo Yl (fun x hx=>.inr (by omega))) (Yz (A:=fun x=>1=0∨x≠b3) (Nc (Xe (A:=(fun x=>x≠b3)) d))))).kz C Qn (fun x hx=>Qn))
   have aA:=(J.kz C)
   subst G
   exact⟨rfl,⟨n1,a5+1#8,I,a7,t,L,M,(Fy8++(zf h j))⟩,Qi,⟨hm,az,⟨(Kc (A:=(fun x=>w3.heap.size≤x)) n (Xe (A:=(fun x=>w3.heap.size≤x)) c))⟩,(Hl (Yj (A:=(Pv [] [] w3.heap.size)) f Vo Yl (fun x hx=>.inr (.inr (by omega)))) (Yz (A:=(Pv [] [] w3.heap.size)) (Ik (Xe (A:=(fun x=>Mz [] x∨w3.heap.size≤x)) d)))),aA,K_38⟩,Nat.lt_succ_self _⟩
 refine qg 3 rfl<|qm rfl<|qv rfl (Qg Hb rfl) ?_
 have aB:=(J.kz C)
 refine qe rfl (Zs (cs':=Xk.cs (Xk.mk I a5) t) (Zb).siz rfl rfl rfl aB rfl rfl) ?_
 rintro _ aC ⟨aj,U⟩
 have ba:=U.size
 refine Qj<|Xi<|Xa<|qg 3 rfl<|qm rfl<|qv rfl (Qd8 (p:=a5) (q:=1#8) rfl rfl)<|qm rfl ?_
 refine Qj ?_
 have K_36:Kz [(1,b3)] w3 aC:=(((((((K4.gr Y2).md M7).gr G9).ka k (Qd (Xe (A:=(fun x=>w3.heap.size≤x)) c))).md z).kz C).md U)
 have aD:=(((y.md z (Qd (Hz (b:=b3) n (Qu c))) (Hl (Yj (A:=fun x=>1=0∨x≠b3) f Vo Yl (fun x hx=>.inr (by omega))) (Yz (A:=fun x=>1=0∨x≠b3) (Nc (Xe (A:=(fun x=>x≠b3)) d))))).kz C Qn (fun x hx=>Qn)).md U (Qd (Hz (b:=b3) n (Qu c))) (Hl (Yj (A:=fun x=>1=0∨x≠b3) f Vo Yl (fun x hx=>.inr (by omega))) (Yz (A:=fun x=>1=0∨x≠b3) (Nc (Xe (A:=(fun x=>x≠b3)) d)))))
 subst G
 exact⟨rfl,⟨n1,a5+1#8,I,a5,t,L,M,(Fy8++(zf h j))⟩,Qi,⟨hm,aD,⟨(Kc (A:=(fun x=>w3.heap.size≤x)) n (Xe (A:=(fun x=>w3.heap.size≤x)) c))⟩,(Hl (Yj (A:=(Pv [] [] w3.heap.size)) f Vo Yl (fun x hx=>.inr (.inr (by omega)))) (Yz (A:=(Pv [] [] w3.heap.size)) (Ik (Xe (A:=(fun x=>Mz [] x∨w3.heap.size≤x)) d)))),aj,K_36⟩,Nat.lt_succ_self _⟩
end Go.Proofs.YtopkalcefepilaaGreat.Mx
