/- Walks that follow mirrors: Ga. Printed by mx.py. -/
import Derived.Test.YtopkalcefepilaaGreatZc
import Derived.Test.YtopkalcefepilaaGreatZd
import Derived.Test.YtopkalcefepilaaGreatChecked
import Derived.Test.YtopkalcefepilaaGreatZe
set_option linter.unusedVariables false
set_option linter.unusedSimpArgs false
set_option maxRecDepth 100000
set_option maxHeartbeats 30000000
namespace Go.Proofs.YtopkalcefepilaaGreat.Mx
open Go Go.RowKit Go.Sx
theorem Zj:Vz Tryz.prog 44 6:=fun _=>⟨by kernel_rfl,by kernel_rfl⟩
theorem Ff:ZV Tryz.prog 120 (.agg [.int .u8 0,.int .i64 0,.int .i64 0].toArray):=fun _=>by kernel_rfl
theorem Kj:FA Tryz.prog 44 0 0:=fun _ _ _=>by kernel_rfl
theorem Zb:Ya Tryz.prog 5:=fun _=>⟨by kernel_rfl,by kernel_rfl⟩
theorem Ji:FA Tryz.prog 44 1 1:=fun _ _ _=>by kernel_rfl
theorem Qe:Ya Tryz.prog 3:=fun _=>⟨by kernel_rfl,by kernel_rfl⟩
theorem Bt:ZV Tryz.prog 44 (.agg [.int .u8 0,.int .i64 0,.int .i64 0,.int .u64 0,.int .u64 0,.int .u64 0].toArray):=fun _=>by kernel_rfl
theorem Tc:Vz Tryz.prog 24 3:=fun _=>⟨by kernel_rfl,by kernel_rfl⟩
theorem Cf:BS Tryz.prog 44 (fun i=>[(0,1),(1,1),(2,1),(3,3)][i]?) [.int .u8 0,.int .i64 0,.int .i64 0,.int .u64 0,.int .u64 0,.int .u64 0]:=Ny Tryz.underlying44 Bt ⟨rfl,(Zb).siz,rfl,(Qe).siz,rfl,(Qe).siz,rfl,(Tc).siz,trivial⟩
theorem Kv:Ya Tryz.prog 22:=fun _=>⟨by kernel_rfl,by kernel_rfl⟩
theorem Qec:Wl Tryz.prog 1 22 [.i .u64]:=Qee Tryz.underlying22 Kv
theorem Qj0:Wl Tryz.prog 2 24 [.i .u64,.i .u64,.i .u64]:=Qj1 Tryz.underlying24 (by kernel_rfl) Tc (show Bw _ 1 _ _ _ from(Rh (ks1:=[.i .u64]) (ks2:=[.i .u64,.i .u64]) rfl (by simp) (Qec.up (by decide)) (Rh (ks1:=[.i .u64]) (ks2:=[.i .u64]) rfl (by simp) (Qec.up (by decide)) (Rh (ks1:=[.i .u64]) (ks2:=[]) rfl (by simp) (Qec.up (by decide)) (Qj3 _)))))
theorem Qed:Wl Tryz.prog 1 3 [.i .i64]:=Qee Tryz.underlying3 Qe
theorem Qqp:Wl Tryz.prog 1 5 [.i .u8]:=Qee Tryz.underlying5 Zb
theorem Qqo:Wl Tryz.prog 3 44 [.i .u8,.i .i64,.i .i64,.i .u64,.i .u64,.i .u64]:=Qj1 Tryz.underlying44 (by kernel_rfl) Zj (show Bw _ 2 _ _ _ from(Rh (ks1:=[.i .u8]) (ks2:=[.i .i64,.i .i64,.i .u64,.i .u64,.i .u64]) rfl (by simp) (Qqp.up (by decide)) (Rh (ks1:=[.i .i64]) (ks2:=[.i .i64,.i .u64,.i .u64,.i .u64]) rfl (by simp) (Qed.up (by decide)) (Rh (ks1:=[.i .i64]) (ks2:=[.i .u64,.i .u64,.i .u64]) rfl (by simp) (Qed.up (by decide)) (Rh (ks1:=[.i .u64,.i .u64,.i .u64]) (ks2:=[]) rfl (by simp) (Qj0.up (by decide)) (Qj3 _))))))
theorem Qqv:Ty Tryz.prog 44 [.i .u8,.i .i64,.i .i64,.i .u64,.i .u64,.i .u64]:=⟨by kernel_rfl,Zj,3,by decide,Qqo⟩
theorem Qa4:BS Tryz.prog 120 (fun i=>[(0,1),(1,1),(2,1)][i]?) [.int .u8 0,.int .i64 0,.int .i64 0]:=Ny Tryz.underlying120 Ff ⟨rfl,(Zb).siz,rfl,(Qe).siz,rfl,(Qe).siz,trivial⟩
theorem Jy:Vz Tryz.prog 120 3:=fun _=>⟨by kernel_rfl,by kernel_rfl⟩
theorem Ae:FA Tryz.prog 120 2 2:=fun _ _ _=>by kernel_rfl
theorem Qj9:FA Tryz.prog 120 1 1:=fun _ _ _=>by kernel_rfl
theorem Qix:En Tryz.prog 95:=fun _ _=>by kernel_rfl
theorem Qxn:ZV Tryz.prog 113 (.agg [.int .i64 0,.int .i64 0,.int .i64 0,.int .i64 0].toArray):=fun _=>by kernel_rfl
theorem Qo2:BA Tryz.prog 113 1 [.int .i64 0,.int .i64 0,.int .i64 0,.int .i64 0]:=⟨_,_,Tryz.underlying113,(Qe).siz,Qxn⟩
theorem Qq0:En Tryz.prog 49:=fun _ _=>by kernel_rfl
theorem Qxo:ZV Tryz.prog 116 (.agg [.int .u8 0,.int .i64 0,.int .i64 0,.int .u64 0,.int .u64 0,.int .u64 0,.int .i64 0,.slice none 0 0,.slice none 0 0,.slice none 0 0,.slice none 0 0,.int .i64 0].toArray):=fun _=>by kernel_rfl
theorem Qnv:Vz Tryz.prog 114 4:=fun _=>⟨by kernel_rfl,by kernel_rfl⟩
theorem Qob:BS Tryz.prog 116 (fun i=>[(0,6),(6,1),(7,4),(11,1)][i]?) [.int .u8 0,.int .i64 0,.int .i64 0,.int .u64 0,.int .u64 0,.int .u64 0,.int .i64 0,.slice none 0 0,.slice none 0 0,.slice none 0 0,.slice none 0 0,.int .i64 0]:=Ny Tryz.underlying116 Qxo ⟨rfl,(Zj).siz,rfl,(Qe).siz,rfl,(Qnv).siz,rfl,(Qe).siz,trivial⟩
theorem Qj8:FA Tryz.prog 116 3 11:=fun _ _ _=>by kernel_rfl
theorem Qej:FA Tryz.prog 116 2 7:=fun _ _ _=>by kernel_rfl
theorem Fj:Ph Tryz.prog 30 3 1 8:=Ep Tryz.underlying30 rfl (by kernel_rfl)
theorem Dm:ZV Tryz.prog 3 (.int .i64 0):=fun _=>by kernel_rfl
theorem Zp:Ya Tryz.prog 30:=fun _=>⟨by kernel_rfl,by kernel_rfl⟩
theorem Qaq:En Tryz.prog 50:=fun _ _=>by kernel_rfl
theorem Qiw:En Tryz.prog 91:=fun _ _=>by kernel_rfl
theorem Ac:En Tryz.prog 51:=fun _ _=>by kernel_rfl
theorem Qqi:En Tryz.prog 92:=fun _ _=>by kernel_rfl
theorem Qnu:ZV Tryz.prog 4 (.bool false):=fun _=>by kernel_rfl
theorem He:Ya Tryz.prog 4:=fun _=>⟨by kernel_rfl,by kernel_rfl⟩
theorem Qki:Ya Tryz.prog 104:=fun _=>⟨by kernel_rfl,by kernel_rfl⟩
theorem Qsx:Ya Tryz.prog 81:=fun _=>⟨by kernel_rfl,by kernel_rfl⟩
theorem Ma:FA Tryz.prog 116 0 0:=fun _ _ _=>by kernel_rfl
theorem Qr4:FA Tryz.prog 116 1 6:=fun _ _ _=>by kernel_rfl
theorem Qir:En Tryz.prog 58:=fun _ _=>by kernel_rfl
theorem Qqk:En Tryz.prog 94:=fun _ _=>by kernel_rfl
theorem Qqj:En Tryz.prog 93:=fun _ _=>by kernel_rfl
theorem Qpd:En Tryz.prog 146:=fun _ _=>by kernel_rfl
theorem Qiq:En Tryz.prog 55:=fun _ _=>by kernel_rfl
theorem Ad:En Tryz.prog 52:=fun _ _=>by kernel_rfl
theorem Qhn {p0 r}(hm:Co p0=some r){w:World}:
 Calls Tryz.prog 95 [.agg (Qo.cs p0).toArray].toArray w fun e w'=>∃ v,e=.returned v∧(v=.tuple [.agg (Xl.cs r.1).toArray,.bool r.2].toArray∧Gr w w'):=by
 unfold Co at hm
 refine Xj 51 Tryz.func95 rfl rfl rfl<|qs 3 rfl<|qe rfl (Xq (cs:=Qo.cs p0) rfl rfl) ?_
 rintro _ w1 ⟨b1,rfl,y,f,G1⟩
 have z1:=G1.size
 have E:=f.lt
 refine qe rfl (Zz (cs:=Xl.cs (Xl.mk 0#8 0 0)) Ff rfl) ?_
 rintro _ w2 ⟨b2,rfl,z,g,G2⟩
 have z3:=G2.size
 have F:=g.lt
 refine qm rfl<|Qa<|Qh ?_
 have X5:=(((Gr.refl w).trans G1).trans G2)
 refine qj (β:=Bool) (rg 5 27) (fun a1=>[(31,.bool a1)]) (fun a1 wr=>(Lj p0 a1=some r)∧Kz [] w2 wr) ?_ ?_
 · refine qg 27 rfl<|qv rfl (Qg Kj rfl) ?_
   have d:=(f.gr G2)
   refine qv rfl (Qf (v:=bv p0.Kind) Zb rfl d rfl)<|qv rfl (Qng (p:=p0.Kind) (q:=1#8) rfl rfl)<|Zm hm rfl (Qt rfl) (fun c3 hm=>?_) (fun c3 hm=>?_)
   · refine qn 7 rfl ?_
     refine qn 7 rfl ?_
     refine qn 7 rfl ?_
     refine qn 2 rfl<|Qj ?_
     exact⟨rfl,true,Qi,hm,Qw⟩
   refine qv rfl (Qg Kj rfl)<|qv rfl (Qf (v:=bv p0.Kind) Zb rfl d rfl)<|qv rfl (Qnb (p:=p0.Kind) (q:=3#8) rfl rfl)<|qm rfl<|Zm hm rfl (Qt rfl) (fun c4 hm=>?_) (fun c4 hm=>?_)
   · refine qn 7 rfl ?_
     refine qn 7 rfl ?_
     refine qn 4 rfl<|Qj ?_
     exact⟨rfl,true,Qi,hm,Qw⟩
   refine qv rfl (Qg Ji rfl)<|qv rfl (Qf (v:=.int .i64 p0.Depth) Qe rfl d rfl)<|qv rfl (Zo (a:=p0.Depth) (b:=0) rfl rfl)<|qm rfl<|Zm hm rfl (Qt rfl) (fun c5 hm=>?_) (fun c5 hm=>?_)
   · refine qn 7 rfl ?_
     refine qn 6 rfl<|Qj ?_
     exact⟨rfl,true,Qi,hm,Qw⟩
   refine qv rfl (Qg Ji rfl)<|qv rfl (Qf (v:=.int .i64 p0.Depth) Qe rfl d rfl)<|qv rfl (Ky (a:=p0.Depth) (b:=6) rfl rfl)<|qm rfl<|Zm hm rfl (Qt rfl) (fun c6 hm=>?_) (fun c6 hm=>?_)
   · refine qn 7 rfl ?_
     refine qm rfl<|Qj ?_
     exact⟨rfl,true,Qi,hm,Qw⟩
   refine qv rfl (Xm Zj rfl d rfl)<|qv rfl (Qg Kj rfl)<|qv rfl (Qf (v:=bv p0.Kind) Zb rfl d rfl)<|qv rfl (Qg Ji rfl)<|qv rfl (Qf (v:=.int .i64 p0.Depth) Qe rfl d rfl)<|qv rfl (Kl (cs:=Qo.cs (Qo.mk p0.Kind p0.Depth 0 (Xz.mk 0#64 0#64 0#64))) Cf rfl rfl)<|qv rfl (Qx7 (cf:=Qo.cs) (a:=p0) (b:=(Qo.mk p0.Kind p0.Depth 0 (Xz.mk 0#64 0#64 0#64))) Qqv rfl rfl rfl rfl (fun h=>Qo.cs_inj h)) ?_
   refine qm rfl<|Qj ?_
   exact⟨rfl,(decide (p0≠(Qo.mk p0.Kind p0.Depth 0 (Xz.mk 0#64 0#64 0#64)))),Qi,hm,Qw⟩
 clear hm;rintro a1 w3 ⟨hm,K3⟩
 have z6:=K3.size
 unfold Lj at hm
 refine Zh hm rfl (fun c1 hm=>?_) (fun c1 hm=>?_)
 · refine qs 3 rfl<|qv rfl (Kl (cs:=Xl.cs (Xl.mk 0#8 0 0)) Qa4 rfl rfl) ?_
   have B7:=(g.kz K3)
   refine qe rfl (Jh Jy rfl rfl rfl B7 rfl rfl) ?_
   rintro _ w4 ⟨m,M4⟩
   have z8:=M4.size
   refine qm rfl<|qb ?_
   have X9:=((X5.kz K3).md M4)
   cases hm
   exact⟨_,_,rfl,Jk rfl (Wc Jy rfl m rfl) (Ql rfl),rfl,X9⟩
 refine qu<|qs 7 rfl<|qv rfl (Qg Kj rfl) ?_
 have j:=((f.gr G2).kz K3)
 refine qv rfl (Qf (v:=bv p0.Kind) Zb rfl j rfl)<|qv rfl (Qg Ji rfl)<|qv rfl (Qf (v:=.int .i64 p0.Depth) Qe rfl j rfl)<|qv rfl (Kl (cs:=Xl.cs (Xl.mk p0.Kind p0.Depth 1)) Qa4 rfl rfl)<|qe rfl (Zz (cs:=Xl.cs (Xl.mk 0#8 0 0)) Ff rfl) ?_
 rintro _ w5 ⟨b5,rfl,A,l,G5⟩
 have G:=G5.size
 have B:=l.lt
 refine qe rfl (Jh Jy rfl rfl rfl l rfl rfl) ?_
 rintro _ w6 ⟨n,M6⟩
 have H:=M6.size
 refine Qa<|Qh<|Xc ?_
 have o:=(((X5.kz K3).trans G5).md M6)
 refine Zv (α:=Nat × Int) (rg 38 12) (fun⟨n2,a3⟩=>[]) (fun⟨n2,a3⟩ wr=>(Qs (Ra p0) n2 a3=some r)∧Bx wr b5 120 (Xl.cs (Xl.mk p0.Kind p0.Depth a3))∧Kz [(1,b5)] w6 wr) (fun⟨n2,a3⟩=>n2) ⟨Qy,1⟩ ?_ ?_ ?_
 · exact Qi
 · exact⟨hm,n,Kz.refl _ _⟩
 clear hm;rintro⟨n2,a3⟩ w7 ⟨hm,c,K7⟩
 have I:=K7.size
 have C:=c.lt
 have hb:=Zu hm;clear hm;obtain⟨n2,rfl,hm⟩:=hb
 generalize i:Qs (Ra p0) n2=D at hm
 unfold Ra at hm
 try dsimp only at hm
 refine Qh<|qs 8 rfl<|qv rfl (Qg Ae rfl)<|qv rfl (Qf (v:=.int .i64 a3) Qe rfl c rfl)<|qv rfl (Qg Ae rfl)<|qv rfl (Qf (v:=.int .i64 a3) Qe rfl c rfl) ?_
 refine qv rfl (Kb (k:=.i64) (a:=a3) (b:=a3) rfl rfl)<|qv rfl (Qg Qj9 rfl)<|qv rfl (Qf (v:=.int .i64 p0.Depth) Qe rfl c rfl)<|qv rfl (Zo (a:=Qb (a3*a3)) (b:=p0.Depth) rfl rfl)<|Qa<|Zq hm rfl (fun c2 hm=>?_) (fun c2 hm=>?_)
 · refine qu<|Xc<|qg 5 rfl<|qv rfl (Qg Ae rfl)<|qv rfl (Qf (v:=.int .i64 a3) Qe rfl c rfl)<|qv rfl (Xn (k:=.i64) (a:=a3) (b:=1) rfl rfl) ?_
   refine qv rfl (Qg Ae rfl)<|qe rfl (Zs (cs':=Xl.cs (Xl.mk p0.Kind p0.Depth (Qb (a3+1)))) (Qe).siz rfl rfl rfl c rfl rfl) ?_
   rintro _ w8 ⟨s,M8⟩
   have J:=M8.size
   refine Qj<|Xi ?_
   have K_18:Kz [(1,b5)] w6 w8:=(K7.md M8)
   subst i
   exact⟨rfl,⟨n2,Qb (a3+1)⟩,Qi,⟨hm,s,K_18⟩,Nat.lt_succ_self _⟩
 refine Zd<|Xh<|Xh<|Zc<|Xa<|qs 3 rfl ?_
 refine qv rfl (Xm Jy rfl c rfl) ?_
 have t:=((((g.kz K3).gr G5).md M6).kz K7)
 refine qe rfl (Jh Jy rfl rfl rfl t rfl rfl) ?_
 rintro _ w9 ⟨u,M9⟩
 have K:=M9.size
 refine qm rfl<|Qa<|Qp ?_
 have x:=((o.kz K7).md M9)
 cases hm
 exact⟨_,_,rfl,Jk rfl (Wc Jy rfl u rfl) (Ql rfl),rfl,x⟩
theorem Qhj {p0 r}(hm:Qa8 p0=some r){w:World}:
 Calls Tryz.prog 59 [.agg (Qo.cs p0).toArray].toArray w fun e w'=>∃ v,e=.returned v∧(v=.int .i64 r∧Gr w w'):=by
 unfold Qa8 at hm
 refine Xj 12 Tryz.func59 rfl rfl rfl<|qs 2 rfl<|qe rfl (Xq (cs:=Qo.cs p0) rfl rfl) ?_
 rintro _ w1 ⟨b1,rfl,d,a,G1⟩
 have z1:=G1.size
 have g:=a.lt
 refine qm rfl<|Qa<|Qh<|qs 8 rfl<|qv rfl (Xm Zj rfl a rfl) ?_
 obtain⟨x1,c,hm⟩:=Qc hm
 refine qe rfl (eC Qix rfl (Qhn c)) ?_
 rintro _ w2 ⟨rfl,G2⟩
 have z3:=G2.size
 refine qn 3 rfl<|qe rfl (Zz (cs:=Xl.cs (Xl.mk 0#8 0 0)) Ff rfl) ?_
 rintro _ w3 ⟨b3,rfl,f,b,G3⟩
 have z4:=G3.size
 have h:=b.lt
 refine qe rfl (Jh Jy rfl rfl rfl b rfl rfl) ?_
 rintro _ w4 ⟨i,M4⟩
 have z6:=M4.size
 refine qm rfl<|qd 2 rfl<|qm rfl<|qv rfl (Zr rfl)<|Qa ?_
 refine Zh hm rfl (fun c1 hm=>?_) (fun c1 hm=>?_)
 · refine qs 1 rfl<|qm rfl<|qb ?_
   have X7:=(((((Gr.refl w).trans G1).trans G2).trans G3).md M4)
   cases hm
   exact⟨_,_,rfl,Qr rfl (Ql rfl),rfl,X7⟩
 refine qu<|qs 1 rfl<|qm rfl<|Qa<|Qp ?_
 have X8:=(((((Gr.refl w).trans G1).trans G2).trans G3).md M4)
 cases hm
 exact⟨_,_,rfl,Qr rfl (Ql rfl),rfl,X8⟩
theorem Qtp {p0 r}(hm:Qff p0=some r){w:World}:
 Calls Tryz.prog 49 [.int .i64 p0].toArray w fun e w'=>∃ v,e=.returned v∧(v=.int .i64 r∧Gr w w'):=by
 unfold Qff at hm
 refine Xj 12 Tryz.func49 rfl rfl rfl<|qs 1 rfl<|qm rfl<|qd 1 rfl ?_
 refine qm rfl<|Qa<|Qh<|Xc<|Zv (α:=Nat × Int) (rg 3 8) (fun⟨n1,a2⟩=>[(3,.int .i64 a2)]) (fun⟨n1,a2⟩ wr=>(Qs (Qc0 p0) n1 a2=some r)∧Kz [] w wr) (fun⟨n1,a2⟩=>n1) ⟨Qy,1⟩ ?_ ?_ ?_
 · exact Qi
 · exact⟨hm,Kz.refl _ _⟩
 clear hm;rintro⟨n1,a2⟩ w1 ⟨hm,K1⟩
 have z1:=K1.size
 have hb:=Zu hm;clear hm;obtain⟨n1,rfl,hm⟩:=hb
 generalize c:Qs (Qc0 p0) n1=d at hm
 unfold Qc0 at hm
 try dsimp only at hm
 refine Qh<|qs 5 rfl<|qn 2 rfl<|qv rfl (Kb (k:=.i64) (a:=a2) (b:=a2) rfl rfl)<|qm rfl ?_
 refine qv rfl (Zo (a:=Qb (a2*a2)) (b:=p0) rfl rfl)<|Qa<|Zq hm rfl (fun c1 hm=>?_) (fun c1 hm=>?_)
 · refine qu<|Xc<|qg 3 rfl<|qm rfl<|qv rfl (Xn (k:=.i64) (a:=a2) (b:=1) rfl rfl)<|qm rfl ?_
   refine Qj<|Xi ?_
   have K_2:Kz [] w w1:=K1
   subst c
   exact⟨rfl,⟨n1,Qb (a2+1)⟩,Qi,⟨hm,K_2⟩,Nat.lt_succ_self _⟩
 refine Zd<|Xh<|Xh<|Zc<|Xa<|qs 2 rfl ?_
 refine qn 2 rfl<|Qa<|Qp ?_
 have X3:=((Gr.refl w).kz K1)
 cases hm
 exact⟨_,_,rfl,Qr rfl (Ql rfl),rfl,X3⟩
theorem Qks {p0 r}(hm:Qc8 p0=some r){w:World}:
 Calls Tryz.prog 91 [.int .i64 p0].toArray w fun e w'=>∃ v,e=.returned v∧(v=.int .i64 r∧Gr w w'):=by
 unfold Qc8 at hm
 refine Xj 6 Tryz.func91 rfl rfl rfl<|qs 1 rfl<|qm rfl<|qd 4 rfl ?_
 refine qm rfl ?_
 obtain⟨nn1,hnn1,hm⟩:=Qc hm
 refine qv rfl (Hi (a:=1) (b:=p0) rfl rfl hnn1)<|qv rfl (Xn (k:=.i64) (a:=Xr 1 nn1) (b:=1) rfl rfl)<|qm rfl<|Qa<|Qp ?_
 cases hm
 exact⟨_,_,rfl,Qr rfl (Ql rfl),rfl,(Gr.refl w)⟩
theorem Ij {p0 p1 bp0 vp0_7 zp0_7 gp0_7 op0_7 vp0_8 zp0_8 gp0_8 op0_8 vp0_9 zp0_9 gp0_9 op0_9 vp0_10 zp0_10 gp0_10 op0_10 r}(hm:Rv p0 p1=some r){w:World}(hbp0:Bx w bp0 116 (Qz.cs p0 vp0_7 vp0_8 vp0_9 vp0_10))(d:Rd w zp0_7 gp0_7 op0_7 1 vp0_7 (p0.rows.a0.map ic))(f:Rd w zp0_8 gp0_8 op0_8 1 vp0_8 (p0.rows.a1.map ic))(g:Rd w zp0_9 gp0_9 op0_9 1 vp0_9 (p0.rows.a2.map ic))(c:Rd w zp0_10 gp0_10 op0_10 1 vp0_10 (p0.rows.a3.map ic)):
 Calls Tryz.prog 51 [.pointer (some ⟨bp0,0,none⟩),.int .i64 p1].toArray w fun e w'=>∃ v,e=.returned v∧(v=.int .i64 r∧Gr w w'):=by
 have h:=d.lth
 have i:=f.lth
 have j:=g.lth
 have k:=c.lth
 have l:=hbp0.lt
 unfold Rv at hm
 refine Xj 11 Tryz.func51 rfl rfl rfl<|qs 1 rfl<|qm rfl<|Qa<|Qh<|Xc ?_
 refine qs 3 rfl<|qm rfl<|qv rfl (Xv (a:=p1) (b:=0) rfl rfl)<|qm rfl<|Qa<|Zq hm rfl (fun c1 hm=>?_) (fun c1 hm=>?_)
 · refine qs 1 rfl<|qm rfl<|Qa<|Qp<|Zk<|Xp ?_
   cases hm
   exact⟨_,_,rfl,Qr rfl (Ql rfl),rfl,(Gr.refl w)⟩
 refine qs 3 rfl<|qm rfl<|qv rfl (Xv (a:=p1) (b:=3) rfl rfl)<|qm rfl<|Qa<|Zq hm rfl (fun c2 hm=>?_) (fun c2 hm=>?_)
 · refine qs 1 rfl<|qm rfl<|Qa<|Qp<|Zk<|Xp ?_
   cases hm
   exact⟨_,_,rfl,Qr rfl (Ql rfl),rfl,(Gr.refl w)⟩
 refine Jb<|Xi<|Xa<|qs 1 rfl<|qm rfl<|Qa ?_
 refine Qp ?_
 cases hm
 exact⟨_,_,rfl,Qr rfl (Ql rfl),rfl,(Gr.refl w)⟩
theorem Qto {p0 p1 r}(hm:Qfd p0 p1=some r){w:World}:
 Calls Tryz.prog 92 [.int .i64 p0,.int .i64 p1].toArray w fun e w'=>∃ v,e=.returned v∧(∃ bc0 bc1,v=.func (.func 146) #[] [.pointer (some ⟨bc0,0,none⟩),.pointer (some ⟨bc1,0,none⟩)].toArray∧Bx w' bc0 3 ([.int .i64 r.1])∧(w.heap.size≤bc0)∧Bx w' bc1 3 ([.int .i64 r.2])∧(w.heap.size≤bc1)∧Gr w w'):=by
 unfold Qfd at hm
 refine Xj 6 Tryz.func92 rfl rfl rfl<|qs 3 rfl<|qe rfl (Xq (cs:=[.int .i64 p0]) rfl rfl) ?_
 rintro _ w1 ⟨b1,rfl,c,a,G1⟩
 have z1:=G1.size
 have f:=a.lt
 refine qe rfl (Xq (cs:=[.int .i64 p1]) rfl rfl) ?_
 rintro _ w2 ⟨b2,rfl,d,b,G2⟩
 have z3:=G2.size
 have g:=b.lt
 refine qm rfl<|qd 2 rfl<|qv rfl (Tx rfl rfl)<|qm rfl<|Qa ?_
 refine Qp ?_
 have B5:=(a.gr G2)
 have X6:=(((Gr.refl w).trans G1).trans G2)
 cases hm
 exact⟨_,_,rfl,Qr rfl (Ql rfl),b1,b2,rfl,B5,by omega,b,by omega,X6⟩
theorem Qtn (p1:Int)(p2:Int)(bp1:Nat)(bp2:Nat)(xs:List Int)(hm:Qfe p1 p2=some xs)(w0:World)(hbp1:Bx w0 bp1 3 ([.int .i64 p1]))(hbp2:Bx w0 bp2 3 ([.int .i64 p2])):
 IT Tryz.prog 146 [.pointer (some ⟨bp1,0,none⟩),.pointer (some ⟨bp2,0,none⟩)] (xs.map (fun(x:Int)=>([.int .i64 x]:List Value))) ([bp1]++[bp2]) w0:=by
 intro l J Jx w fp hG hJ hJx hcap h0 hY
 have c1:=Bx.gr hbp1 hG
 have u:=c1.lt
 have p:bp1∉fp:=hcap _ (by simp)
 have c4:=Bx.gr hbp2 hG
 have y:=c4.lt
 have q:bp2∉fp:=hcap _ (by simp)
 have hd:=Qam xs
 unfold Qfe at hm
 refine Xj 24 Tryz.func146 rfl rfl rfl<|qs 4 rfl<|qv rfl (Qf (v:=.int .i64 p1) Qe rfl c1 rfl)<|qv rfl (Js (k:=.i64) (a:=p1) (b:=1) rfl rfl) ?_
 obtain⟨nn1,hnn1,hm⟩:=Qc hm
 refine qv rfl (Hi (a:=1) (b:=(Qb (p1-1))) rfl rfl hnn1)<|qm rfl<|qd 5 rfl<|qv rfl (Qf (v:=.int .i64 p2) Qe rfl c4 rfl)<|qm rfl ?_
 refine qv rfl (Js (k:=.i64) (a:=p2) (b:=Xr 1 nn1) rfl rfl)<|qv rfl (Qa1 rfl rfl)<|qm rfl<|Qa<|Xc<|Zv (α:=Nat × Int × Nat × List Nat × List Int) ([5]++rg 13 11) (fun⟨n1,a3,kk,fpl,rl⟩=>[(5,.int .i64 a3)]) (fun⟨n1,a3,kk,fpl,rl⟩ wr=>(Qs (Qbz p2 nn1) n1 a3=some rl)∧Dr xs kk rl∧J kk fpl wr∧(∀ c∈fpl,c∈fp∨w.heap.size≤c)∧Kp fp w wr∧Bx wr bp1 3 ([.int .i64 p1])∧Bx wr bp2 3 ([.int .i64 p2])∧bp1∉fpl∧bp2∉fpl∧True) (fun⟨n1,a3,kk,fpl,rl⟩=>n1) ⟨Qy,Vp 0 (Qb (p2-(Xr 1 nn1))),0,fp,xs⟩ ?_ ?_ ?_
 · exact Qi
 · exact⟨hm,hd,h0,(fun c hc=>Or.inl hc),(Kp.refl fp w),c1,c4,p,q,trivial⟩
 clear hm;rintro⟨n1,a3,j,fpl1,rl1⟩ w1 ⟨hm,dl1,JLw1,sl1,KLw1,f,d,g,h,-⟩
 have z7:=KLw1.size
 have z:=f.lt
 have A:=d.lt
 have hb:=Zu hm;clear hm;obtain⟨n1,rfl,hm⟩:=hb
 generalize m:Qs (Qbz p2 nn1) n1=t at hm
 unfold Qbz at hm
 try dsimp only at hm
 refine Qh<|qs 5 rfl<|qm rfl<|qv rfl (Qf (v:=.int .i64 p2) Qe rfl d rfl)<|qm rfl<|qv rfl (Qnh rfl rfl) ?_
 refine qv rfl (Yr (a:=a3) (b:=Mn p2 (Xr 1 nn1)) rfl rfl)<|Qa<|Zy hm rfl (fun c1 hm=>?_) (fun c1 hm=>?_)
 · refine Zd<|Xh<|Xh<|Zc ?_
   have he:=Option.some.inj hm
   have hl:=Dr.last (c:=(fun(x:Int)=>([.int .i64 x]:List Value))) dl1 he.symm
   refine⟨_,_,rfl,Ta rfl,KLw1,.inl ⟨_,sl1,?_⟩⟩
   rw[←hl];exact JLw1
 refine qu<|Qh<|Xc<|qs 4 rfl<|qm rfl ?_
 refine qm rfl ?_
 obtain⟨rr10,hm,he10⟩:=Ei hm
 have i:=Dr.at dl1 he10
 have hd10:=Dr.next dl1 he10
 refine qe rfl (Cz rfl rfl (hY _ _ _ _ (Tp i) JLw1 KLw1 sl1)) ?_
 rintro _ w2 ⟨bb,rfl,KF10,e,hg10,hJb⟩
 have B:=KF10.size
 have sub10:∀ c∈e,c∈fp∨w.heap.size≤c:=Tw sl1 hg10 (by omega)
 have n:=Jt hg10 g (by omega)
 have o:=Jt hg10 h (by omega)
 cases bb
 · have Jy10:Jx (j+1) e w2:=hJb
   refine qv rfl (Zr rfl)<|Qa<|Nt rfl<|Qp<|Zk<|Xp<|Xp ?_
   refine Zk ?_
   have KI14:Kp fp w w2:=(KLw1.trans KF10 sl1)
   exact⟨_,_,rfl,Ta rfl,KI14,.inr ⟨_,_,sub10,(by rw[List.length_map];exact(List.getElem?_eq_some_iff.1 i).1),Jy10⟩⟩
 have Jy10:J (j+1) e w2:=hJb
 refine qv rfl (Zr rfl)<|Qa<|Dj rfl<|Jb<|Xi<|Xa<|qg 3 rfl ?_
 refine qm rfl<|qv rfl (Xn (k:=.i64) (a:=a3) (b:=1) rfl rfl)<|qm rfl<|Qj ?_
 have KI15:Kp fp w w2:=(KLw1.trans KF10 sl1)
 have r:=(Bx.kp f KF10 g)
 have s:=(Bx.kp d KF10 h)
 subst m
 exact⟨rfl,⟨n1,Qb (a3+1),(j+1),e,rr10⟩,Qi,⟨hm,hd10,Jy10,sub10,KI15,r,s,n,o,trivial⟩,Nat.lt_succ_self _⟩
theorem Qfg {p0 p1 p2 bp0 vp0_7 zp0_7 gp0_7 op0_7 vp0_8 zp0_8 gp0_8 op0_8 vp0_9 zp0_9 gp0_9 op0_9 vp0_10 zp0_10 gp0_10 op0_10 r}(hm:Ie p0 p1 p2=some r){w:World}(hbp0:Bx w bp0 116 (Qz.cs p0 vp0_7 vp0_8 vp0_9 vp0_10))(f:Rd w zp0_7 gp0_7 op0_7 1 vp0_7 (p0.rows.a0.map ic))(g:Rd w zp0_8 gp0_8 op0_8 1 vp0_8 (p0.rows.a1.map ic))(h:Rd w zp0_9 gp0_9 op0_9 1 vp0_9 (p0.rows.a2.map ic))(d:Rd w zp0_10 gp0_10 op0_10 1 vp0_10 (p0.rows.a3.map ic)):
 Calls Tryz.prog 50 [.pointer (some ⟨bp0,0,none⟩),.int .i64 p1,.int .i64 p2].toArray w fun e w'=>∃ v,e=.returned v∧(∃ ur0_s zr0_s gr0_s or0_s,v=ur0_s∧Rd w' zr0_s gr0_s or0_s 1 ur0_s (r.map ic)∧Xb (zr0_s=0∨(gr0_s=gp0_7∧zp0_7≠0)∨(gr0_s=gp0_8∧zp0_8≠0)∨(gr0_s=gp0_9∧zp0_9≠0)∨(gr0_s=gp0_10∧zp0_10≠0)∨w.heap.size≤gr0_s)∧Gr w w'):=by
 have O:=f.lth
 have P:=g.lth
 have Q:=h.lth
 have R:=d.lth
 have S:=hbp0.lt
 unfold Ie at hm
 refine Xj 28 Tryz.func50 rfl rfl rfl<|qs 1 rfl<|qm rfl<|qd 6 rfl ?_
 refine qm rfl ?_
 obtain⟨nn1,hnn1,hm⟩:=Qc hm
 refine qv rfl (Hi (a:=1) (b:=p2) rfl rfl hnn1)<|qv rfl (Js (k:=.i64) (a:=Xr 1 nn1) (b:=1) rfl rfl)<|qm rfl<|qv rfl (Xn (k:=.i64) (a:=Qb ((Xr 1 nn1)-1)) (b:=p2) rfl rfl)<|qm rfl<|Qa<|Qh ?_
 refine qg 5 rfl<|qn 2 rfl ?_
 obtain⟨x2,m,hm⟩:=Qc hm
 refine qe rfl (eC Qiw rfl (Qks m)) ?_
 rintro _ w1 ⟨rfl,G1⟩
 have z6:=G1.size
 refine qv rfl (Xn (k:=.i64) (a:=Qb ((Qb ((Xr 1 nn1)-1))+p2)) (b:=x2) rfl rfl)<|qm rfl<|qd 11 rfl<|qn 2 rfl ?_
 refine qv rfl (Dl rfl rfl)<|qv rfl (Qg Qej rfl) ?_
 by_cases c1:p1=0
 · replace hm:=Hw c1 hm
   refine qv rfl (Dk 0 Tryz.underlying114 (Zp).siz rfl rfl c1 (by decide)) ?_
   have B7:=(hbp0.gr G1)
   refine qv rfl (Qf (v:=vp0_7) Zp rfl B7 rfl)<|qn 3 rfl ?_
   obtain⟨l3,n,hm⟩:=Qc hm
   have B9:=(f.gr G1)
   refine qt rfl (Qdc (c:=ic) Tryz.underlying30 (Qe).siz rfl B9 rfl rfl rfl n) ?_
   rintro v8 o8 R8
   have K:=R8.lth
   refine qm rfl<|Qa<|Qp ?_
   have o:=((Gr.refl w).trans G1)
   cases hm
   exact⟨_,_,rfl,Qr rfl (Ql rfl),v8,zp0_7,gp0_7,o8,rfl,R8,⟨Qn⟩,o⟩
 replace hm:=Hv c1 hm
 by_cases c2:p1=1
 · replace hm:=Hw c2 hm
   refine qv rfl (Dk 1 Tryz.underlying114 (Zp).siz rfl rfl c2 (by decide)) ?_
   have p:=(hbp0.gr G1)
   refine qv rfl (Qf (v:=vp0_8) Zp rfl p rfl)<|qn 3 rfl ?_
   obtain⟨l4,q,hm⟩:=Qc hm
   have s:=(g.gr G1)
   refine qt rfl (Qdc (c:=ic) Tryz.underlying30 (Qe).siz rfl s rfl rfl rfl q) ?_
   rintro t u i
   have L:=i.lth
   refine qm rfl<|Qa<|Qp ?_
   have x:=((Gr.refl w).trans G1)
   cases hm
   exact⟨_,_,rfl,Qr rfl (Ql rfl),t,zp0_8,gp0_8,u,rfl,i,⟨Qn⟩,x⟩
 replace hm:=Hv c2 hm
 by_cases c3:p1=2
 · replace hm:=Hw c3 hm
   refine qv rfl (Dk 2 Tryz.underlying114 (Zp).siz rfl rfl c3 (by decide)) ?_
   have y:=(hbp0.gr G1)
   refine qv rfl (Qf (v:=vp0_9) Zp rfl y rfl)<|qn 3 rfl ?_
   obtain⟨l5,z,hm⟩:=Qc hm
   have A:=(h.gr G1)
   refine qt rfl (Qdc (c:=ic) Tryz.underlying30 (Qe).siz rfl A rfl rfl rfl z) ?_
   rintro B C j
   have M:=j.lth
   refine qm rfl<|Qa<|Qp ?_
   have D:=((Gr.refl w).trans G1)
   cases hm
   exact⟨_,_,rfl,Qr rfl (Ql rfl),B,zp0_9,gp0_9,C,rfl,j,⟨Qn⟩,D⟩
 replace hm:=Hv c3 hm
 by_cases c4:p1=3
 · replace hm:=Hw c4 hm
   refine qv rfl (Dk 3 Tryz.underlying114 (Zp).siz rfl rfl c4 (by decide)) ?_
   have E:=(hbp0.gr G1)
   refine qv rfl (Qf (v:=vp0_10) Zp rfl E rfl)<|qn 3 rfl ?_
   obtain⟨l6,F,hm⟩:=Qc hm
   have G:=(d.gr G1)
   refine qt rfl (Qdc (c:=ic) Tryz.underlying30 (Qe).siz rfl G rfl rfl rfl F) ?_
   rintro H I l
   have N:=l.lth
   refine qm rfl<|Qa<|Qp ?_
   have J:=((Gr.refl w).trans G1)
   cases hm
   exact⟨_,_,rfl,Qr rfl (Ql rfl),H,zp0_10,gp0_10,I,rfl,l,⟨Qn⟩,J⟩
 replace hm:=Hv c4 hm
 cases hm
theorem Qkq {p0 p1 p2 bp0 vp0_7 zp0_7 gp0_7 op0_7 vp0_8 zp0_8 gp0_8 op0_8 vp0_9 zp0_9 gp0_9 op0_9 vp0_10 zp0_10 gp0_10 op0_10 r}(hm:Qc1 p0 p1 p2=some r){w:World}(hbp0:Bx w bp0 116 (Qz.cs p0 vp0_7 vp0_8 vp0_9 vp0_10))(d:Rd w zp0_7 gp0_7 op0_7 1 vp0_7 (p0.rows.a0.map ic))(f:Rd w zp0_8 gp0_8 op0_8 1 vp0_8 (p0.rows.a1.map ic))(g:Rd w zp0_9 gp0_9 op0_9 1 vp0_9 (p0.rows.a2.map ic))(c:Rd w zp0_10 gp0_10 op0_10 1 vp0_10 (p0.rows.a3.map ic)):
 Calls Tryz.prog 58 [.pointer (some ⟨bp0,0,none⟩),.int .i64 p1,.int .i64 p2].toArray w fun e w'=>∃ v,e=.returned v∧(v=.int .i64 r∧Gr w w'):=by
 have n:=d.lth
 have o:=f.lth
 have t:=g.lth
 have u:=c.lth
 have x:=hbp0.lt
 unfold Qc1 at hm
 refine Xj 43 Tryz.func58 rfl rfl rfl<|qs 1 rfl<|qm rfl<|Qa<|Qh<|Qh ?_
 refine qg 6 rfl<|qm rfl<|qv rfl (Dl rfl rfl)<|qv rfl (Qg Ma rfl)<|qv rfl (Qg Kj rfl)<|qv rfl (Qf (v:=bv p0.s.Kind) Zb rfl hbp0 rfl)<|qv rfl (Jz (p:=p0.s.Kind) (q:=2#8) rfl rfl) ?_
 refine Qa<|Zq hm rfl (fun c1 hm=>?_) (fun c1 hm=>?_)
 · refine qs 1 rfl<|qm rfl<|qb ?_
   cases hm
   exact⟨_,_,rfl,Qr rfl (Ql rfl),rfl,(Gr.refl w)⟩
 refine qu<|Qh<|dw [([])] [] (.leaf [(0,10),(1,10),(2,10),(3,10),(4,10),(5,10),(6,10),(7,10),(8,10),(9,10),(10,10),(11,10),(12,10),(13,10)]) ?_
 intro w1 G1 y
 refine Jp<|dm 0 rfl rfl<|dh 0 rfl rfl (fun w hS=>Dl rfl rfl)<|dh 0 rfl rfl (fun w hS=>Qg Ma rfl)<|dh 0 rfl rfl (fun w hS=>Qg Ji rfl) ?_
 have B6:=(hbp0.gr G1)
 refine dh 0 rfl rfl (fun w hS=>Qf (v:=.int .i64 p0.s.Depth) Qe rfl (Bx.kp B6 hS) rfl)<|dm 0 rfl rfl<|dh 0 rfl rfl (fun w hS=>Js (k:=.i64) (a:=p0.s.Depth) (b:=p2) rfl rfl)<|dm 0 rfl rfl<|dh 0 rfl rfl (fun w hS=>Dl rfl rfl)<|dh 0 rfl rfl (fun w hS=>Qg Qr4 rfl)<|dh 0 rfl rfl (fun w hS=>Qf (v:=.int .i64 p0.stride) Qe rfl (Bx.kp B6 hS) rfl) ?_
 obtain⟨x1,i,hm⟩:=Qc hm
 refine dh 0 rfl rfl (fun w hS=>Qda (a:=Qb (p0.s.Depth-p2)) (b:=p0.stride) rfl rfl i)<|dh 0 rfl rfl (fun w hS=>Xv (a:=x1) (b:=0) rfl rfl)<|dm 0 rfl rfl<|Qa<|Qh<|Xc ?_
 have X7:=((Gr.refl w).trans G1)
 refine qj (β:=Bool) (rg 27 6) (fun a2=>[(27,.bool a2)]) (fun a2 wr=>(Qc2 p1 x1 a2=some r)∧Kz [] w1 wr) ?_ ?_
 · refine qg 6 rfl<|qm rfl<|qv rfl (Xv (a:=p1) (b:=0) rfl rfl)<|Zm hm rfl (Qt rfl) (fun c6 hm=>?_) (fun c6 hm=>?_)
   · refine qn 3 rfl<|Qj ?_
     exact⟨rfl,(decide (x1=0)),Qi,hm,Qw⟩
   refine qn 3 rfl<|Qj ?_
   exact⟨rfl,false,Qi,hm,Qw⟩
 clear hm;rintro a2 w2 ⟨hm,K2⟩
 have z8:=K2.size
 unfold Qc2 at hm
 refine Zh hm rfl (fun c2 hm=>?_) (fun c2 hm=>?_)
 · refine qs 1 rfl<|qm rfl<|Qa<|Qp<|Zk<|Xp ?_
   have X9:=(X7.kz K2)
   cases hm
   exact⟨_,_,rfl,Qr rfl (Ql rfl),rfl,X9⟩
 have h:=(X7.kz K2)
 refine qj (β:=Bool) (rg 33 6) (fun a3=>[(33,.bool a3)]) (fun a3 wr=>(Qc3 p1 a3=some r)∧Kz [] w2 wr) ?_ ?_
 · refine qg 6 rfl<|qm rfl<|qv rfl (Xv (a:=p1) (b:=2) rfl rfl)<|Zm hm rfl (Qt rfl) (fun c5 hm=>?_) (fun c5 hm=>?_)
   · refine qn 3 rfl<|Qj ?_
     exact⟨rfl,(decide (x1=0)),Qi,hm,Qw⟩
   refine qn 3 rfl<|Qj ?_
   exact⟨rfl,false,Qi,hm,Qw⟩
 clear hm;rintro a3 w3 ⟨hm,K3⟩
 have z:=K3.size
 unfold Qc3 at hm
 refine Zh hm rfl (fun c3 hm=>?_) (fun c3 hm=>?_)
 · refine qs 1 rfl<|qm rfl<|Qa<|Qp<|Zk<|Xp ?_
   have j:=(h.kz K3)
   cases hm
   exact⟨_,_,rfl,Qr rfl (Ql rfl),rfl,j⟩
 refine qs 3 rfl<|qm rfl<|qv rfl (Xv (a:=p1) (b:=0) rfl rfl)<|qm rfl<|Qa<|Zq hm rfl (fun c4 hm=>?_) (fun c4 hm=>?_)
 · refine qs 1 rfl<|qm rfl<|Qa<|Qp<|Zk<|Xp ?_
   have l:=(h.kz K3)
   cases hm
   exact⟨_,_,rfl,Qr rfl (Ql rfl),rfl,l⟩
 refine Jb<|Xi<|Xa<|qs 2 rfl<|qn 2 rfl ?_
 refine Qa<|Qp ?_
 have m:=(h.kz K3)
 cases hm
 exact⟨_,_,rfl,Qr rfl (Ql rfl),rfl,m⟩
theorem Qtt {p0 p1 p2 p3 p4 bp0 vp0_7 zp0_7 gp0_7 op0_7 vp0_8 zp0_8 gp0_8 op0_8 vp0_9 zp0_9 gp0_9 op0_9 vp0_10 zp0_10 gp0_10 op0_10 r}(hm:Qfk p0 p1 p2 p3 p4=some r){w:World}(hbp0:Bx w bp0 116 (Qz.cs p0 vp0_7 vp0_8 vp0_9 vp0_10))(g:Rd w zp0_7 gp0_7 op0_7 1 vp0_7 (p0.rows.a0.map ic))(h:Rd w zp0_8 gp0_8 op0_8 1 vp0_8 (p0.rows.a1.map ic))(j:Rd w zp0_9 gp0_9 op0_9 1 vp0_9 (p0.rows.a2.map ic))(c:Rd w zp0_10 gp0_10 op0_10 1 vp0_10 (p0.rows.a3.map ic)):
 Calls Tryz.prog 94 [.pointer (some ⟨bp0,0,none⟩),.int .i64 p1,.int .i64 p2,.int .i64 p3,.int .i64 p4].toArray w fun e w'=>∃ v,e=.returned v∧(v=.int .i64 r∧Gr w w'):=by
 have ai:=g.lth
 have aj:=h.lth
 have ak:=j.lth
 have al:=c.lth
 have am:=hbp0.lt
 unfold Qfk at hm
 refine Xj 68 Tryz.func94 rfl rfl rfl<|qs 1 rfl<|qm rfl<|qd 5 rfl ?_
 refine qn 2 rfl<|qv rfl (Js (k:=.i64) (a:=p2) (b:=1) rfl rfl) ?_
 obtain⟨x1,P,hm⟩:=Qc hm
 refine qe rfl (eC Qaq rfl (Qfg P hbp0 g h j c)) ?_
 rintro n w1 ⟨_,o,t,x,rfl,d,y,G1⟩
 have z6:=G1.size
 have an:=d.lth
 refine qm rfl<|Qa<|Qh<|Xc<|qs 7 rfl<|qm rfl ?_
 refine qv rfl (Dl rfl rfl)<|qv rfl (Qg Ma rfl)<|qv rfl (Qg Kj rfl) ?_
 have B8:=(hbp0.gr G1)
 refine qv rfl (Qf (v:=bv p0.s.Kind) Zb rfl B8 rfl)<|qv rfl (Jz (p:=p0.s.Kind) (q:=1#8) rfl rfl)<|qm rfl<|Qa<|Zq hm rfl (fun c1 hm=>?_) (fun c1 hm=>?_)
 · refine Qh<|dw [([])] [] (.leaf [(0,10),(1,10),(2,10),(3,10),(4,10),(5,10),(6,10),(7,10),(8,10),(9,10),(10,10),(11,10)]) ?_
   intro w2 G2 ao
   refine Jp<|dm 0 rfl rfl<|dm 0 rfl rfl ?_
   obtain⟨y2,z,hm⟩:=Qc hm
   have B9:=(d.gr G2)
   refine dh 0 rfl rfl (fun w hS=>Jl (i:=p4) Tryz.underlying30 (Qe).siz rfl (Rd.kp B9 hS) rfl z)<|dh 0 rfl rfl (fun w hS=>Zt (q:=0) (u:=.int .i64 y2) Qe rfl (Rd.kp B9 hS) z (by first|rfl|omega) rfl)<|dm 0 rfl rfl<|dm 0 rfl rfl<|dm 0 rfl rfl<|dh 0 rfl rfl (fun w hS=>Js (k:=.i64) (a:=p3) (b:=p4) rfl rfl) ?_
   obtain⟨y3,A,hm⟩:=Qc hm
   refine dh 0 rfl rfl (fun w hS=>Jl (i:=Qb (p3-p4)) Tryz.underlying30 (Qe).siz rfl (Rd.kp B9 hS) rfl A)<|dh 0 rfl rfl (fun w hS=>Zt (q:=0) (u:=.int .i64 y3) Qe rfl (Rd.kp B9 hS) A (by first|rfl|omega) rfl)<|dh 0 rfl rfl (fun w hS=>Xn (k:=.i64) (a:=y2) (b:=y3) rfl rfl)<|dm 0 rfl rfl<|Qa<|Qp<|Zk ?_
   refine Xp ?_
   have Q:=(((Gr.refl w).trans G1).trans G2)
   cases hm
   exact⟨_,_,rfl,Qr rfl (Ql rfl),rfl,Q⟩
 have B:=((Gr.refl w).trans G1)
 refine qj (β:=Bool) (rg 34 8) (fun a4=>[(34,.bool a4)]) (fun a4 wr=>(Qc6 p0 p1 p2 p3 p4 x1 a4=some r)∧Kz [] w1 wr) ?_ ?_
 · refine qg 8 rfl<|qm rfl<|qv rfl (Ky (a:=p4) (b:=0) rfl rfl)<|Zm hm rfl (Qt rfl) (fun c3 hm=>?_) (fun c3 hm=>?_)
   · refine qn 2 rfl<|qv rfl (Zo (a:=p4) (b:=p3) rfl rfl)<|qn 2 rfl<|Qj ?_
     exact⟨rfl,(decide (p4<p3)),Qi,hm,Qw⟩
   refine qn 5 rfl<|Qj ?_
   exact⟨rfl,false,Qi,hm,Qw⟩
 clear hm;rintro a4 w3 ⟨hm,K3⟩
 have ap:=K3.size
 unfold Qc6 at hm
 refine Wz hm rfl (fun c2 hm=>?_) (fun c2 hm=>?_)
 · refine Jb<|Xi<|Xa<|qs 12 rfl<|qn 2 rfl ?_
   refine qn 2 rfl ?_
   have C:=(B8.kz K3)
   have D:=((g.gr G1).kz K3)
   have E:=((h.gr G1).kz K3)
   have F:=((j.gr G1).kz K3)
   have G:=((c.gr G1).kz K3)
   obtain⟨x8,R,hm⟩:=Qc hm
   refine qe rfl (eC Qir rfl (Qkq R C D E F G)) ?_
   rintro _ w6 ⟨rfl,G6⟩
   have aq:=G6.size
   refine qm rfl<|qv rfl (Js (k:=.i64) (a:=p2) (b:=1) rfl rfl) ?_
   have S:=(C.gr G6)
   have T:=(D.gr G6)
   have U:=(E.gr G6)
   have V:=(F.gr G6)
   have W:=(G.gr G6)
   obtain⟨x9,X,hm⟩:=Qc hm
   refine qe rfl (eC Qaq rfl (Qfg X S T U V W)) ?_
   rintro H w7 ⟨_,I,J,K,rfl,f,L,G7⟩
   have ar:=G7.size
   have ah:=f.lth
   refine qm rfl ?_
   obtain⟨Y,m,hm⟩:=Qc hm
   refine qv rfl (Jl (i:=p3) Tryz.underlying30 (Qe).siz rfl f rfl m)<|qv rfl (Zt (q:=0) (u:=.int .i64 Y) Qe rfl f m (by first|rfl|omega) rfl)<|qm rfl<|Qa<|Qp ?_
   have Z:=(((B.kz K3).trans G6).trans G7)
   cases hm
   exact⟨_,_,rfl,Qr rfl (Ql rfl),rfl,Z⟩
 refine Qh<|dw [([])] [] (.leaf [(0,10),(1,10),(2,10),(3,10),(4,10),(5,10),(6,10),(7,10),(8,10),(9,10),(10,10),(11,10),(12,10),(13,0),(14,10),(15,10)]) ?_
 intro w4 G4 au
 refine Jp<|dm 0 rfl rfl<|dm 0 rfl rfl ?_
 obtain⟨y5,M,hm⟩:=Qc hm
 have l:=((d.kz K3).gr G4)
 refine dh 0 rfl rfl (fun w hS=>Jl (i:=p4) Tryz.underlying30 (Qe).siz rfl (Rd.kp l hS) rfl M)<|dh 0 rfl rfl (fun w hS=>Zt (q:=0) (u:=.int .i64 y5) Qe rfl (Rd.kp l hS) M (by first|rfl|omega) rfl)<|dm 0 rfl rfl<|dm 0 rfl rfl<|dm 0 rfl rfl<|dh 0 rfl rfl (fun w hS=>Js (k:=.i64) (a:=p3) (b:=p4) rfl rfl) ?_
 obtain⟨y6,N,hm⟩:=Qc hm
 refine dh 0 rfl rfl (fun w hS=>Jl (i:=Qb (p3-p4)) Tryz.underlying30 (Qe).siz rfl (Rd.kp l hS) rfl N)<|dh 0 rfl rfl (fun w hS=>Zt (q:=0) (u:=.int .i64 y6) Qe rfl (Rd.kp l hS) N (by first|rfl|omega) rfl)<|dh 0 rfl rfl (fun w hS=>Xn (k:=.i64) (a:=y5) (b:=y6) rfl rfl)<|dm 0 rfl rfl<|dm 0 rfl rfl ?_
 have aa:=((B8.kz K3).gr G4)
 have ab:=(((g.gr G1).kz K3).gr G4)
 have ac:=(((h.gr G1).kz K3).gr G4)
 have ad:=(((j.gr G1).kz K3).gr G4)
 have ae:=(((c.gr G1).kz K3).gr G4)
 obtain⟨x7,af,hm⟩:=Qc hm
 refine qz [] rfl (eC Ac rfl (Ij af aa ab ac ad ae)) ⟨fun _=>Qn,trivial⟩ ?_
 rintro _ w5 ⟨rfl,G5⟩
 have av:=G5.size
 refine kG G5 ?_
 have O:=((Kp.refl ([]) w4).gr G5)
 refine qh 0 rfl rfl O (fun w hS=>Xn (k:=.i64) (a:=Qb (y5+y6)) (b:=x7) rfl rfl)<|dn 0 rfl rfl O<|Qa<|Qp<|Zk<|Xp ?_
 have ag:=(((B.kz K3).trans G4).trans G5)
 cases hm
 exact⟨_,_,rfl,Qr rfl (Ql rfl),rfl,ag⟩
theorem Qtq {p0 a p2 p3 p4 bp1 bp1_p vp1_p_7 zp1_p_7 gp1_p_7 op1_p_7 vp1_p_8 zp1_p_8 gp1_p_8 op1_p_8 vp1_p_9 zp1_p_9 gp1_p_9 op1_p_9 vp1_p_10 zp1_p_10 gp1_p_10 op1_p_10 bp2 bp3 bp4 r}(hm:Qfh p0 a p2 p3 p4=some r){w:World}(hbp1_p:Bx w bp1_p 116 (Qz.cs a vp1_p_7 vp1_p_8 vp1_p_9 vp1_p_10))(c:Rd w zp1_p_7 gp1_p_7 op1_p_7 1 vp1_p_7 (a.rows.a0.map ic))(d:Rd w zp1_p_8 gp1_p_8 op1_p_8 1 vp1_p_8 (a.rows.a1.map ic))(f:Rd w zp1_p_9 gp1_p_9 op1_p_9 1 vp1_p_9 (a.rows.a2.map ic))(b:Rd w zp1_p_10 gp1_p_10 op1_p_10 1 vp1_p_10 (a.rows.a3.map ic))(hbp1:Bx w bp1 81 [.pointer (some ⟨bp1_p,0,none⟩)])(hbp2:Bx w bp2 3 ([.int .i64 p2]))(hbp3:Bx w bp3 3 ([.int .i64 p3]))(hbp4:Bx w bp4 3 ([.int .i64 p4])):
 Calls Tryz.prog 93 [.int .i64 p0,.pointer (some ⟨bp1,0,none⟩),.pointer (some ⟨bp2,0,none⟩),.pointer (some ⟨bp3,0,none⟩),.pointer (some ⟨bp4,0,none⟩)].toArray w fun e w'=>∃ v,e=.returned v∧(v=.int .i64 r∧Gr w w'):=by
 have i:=c.lth
 have j:=d.lth
 have k:=f.lth
 have l:=b.lth
 have m:=hbp1_p.lt
 have n:=hbp1.lt
 have o:=hbp2.lt
 have p:=hbp3.lt
 have q:=hbp4.lt
 unfold Qfh at hm
 refine Xj 13 Tryz.func93 rfl rfl rfl<|qs 1 rfl<|qm rfl<|qd 7 rfl ?_
 refine qv rfl (Qf Qsx rfl hbp1 rfl)<|qv rfl (Qf (v:=.int .i64 p2) Qe rfl hbp2 rfl)<|qv rfl (Qf (v:=.int .i64 p3) Qe rfl hbp3 rfl)<|qv rfl (Qf (v:=.int .i64 p4) Qe rfl hbp4 rfl)<|qm rfl ?_
 obtain⟨x1,g,hm⟩:=Qc hm
 refine qe rfl (eC Qqk rfl (Qtt g hbp1_p c d f b)) ?_
 rintro _ w1 ⟨rfl,G1⟩
 have s:=G1.size
 refine qm rfl<|Qa<|Qp ?_
 have h:=((Gr.refl w).trans G1)
 cases hm
 exact⟨_,_,rfl,Qr rfl (Ql rfl),rfl,h⟩
theorem Qtl {z A d q s t bp0_0 bp0_1 bp1_0 bp1_0_p vp1_0_p_7 zp1_0_p_7 gp1_0_p_7 op1_0_p_7 vp1_0_p_8 zp1_0_p_8 gp1_0_p_8 op1_0_p_8 vp1_0_p_9 zp1_0_p_9 gp1_0_p_9 op1_0_p_9 vp1_0_p_10 zp1_0_p_10 gp1_0_p_10 op1_0_p_10 bp1_1 bp1_2 bp1_3 r}(hm:Qfa z A d q s t=some r){w:World}(hbp0_0:Bx w bp0_0 3 ([.int .i64 z]))(hbp0_1:Bx w bp0_1 3 ([.int .i64 A]))(hbp1_0_p:Bx w bp1_0_p 116 (Qz.cs d vp1_0_p_7 vp1_0_p_8 vp1_0_p_9 vp1_0_p_10))(g:Rd w zp1_0_p_7 gp1_0_p_7 op1_0_p_7 1 vp1_0_p_7 (d.rows.a0.map ic))(i:Rd w zp1_0_p_8 gp1_0_p_8 op1_0_p_8 1 vp1_0_p_8 (d.rows.a1.map ic))(j:Rd w zp1_0_p_9 gp1_0_p_9 op1_0_p_9 1 vp1_0_p_9 (d.rows.a2.map ic))(f:Rd w zp1_0_p_10 gp1_0_p_10 op1_0_p_10 1 vp1_0_p_10 (d.rows.a3.map ic))(hbp1_0:Bx w bp1_0 81 [.pointer (some ⟨bp1_0_p,0,none⟩)])(hbp1_1:Bx w bp1_1 3 ([.int .i64 q]))(hbp1_2:Bx w bp1_2 3 ([.int .i64 s]))(hbp1_3:Bx w bp1_3 3 ([.int .i64 t])):
 Calls Tryz.prog 55 [.func (.func 146) [].toArray [.pointer (some ⟨bp0_0,0,none⟩),.pointer (some ⟨bp0_1,0,none⟩)].toArray,.func (.func 93) [].toArray [.pointer (some ⟨bp1_0,0,none⟩),.pointer (some ⟨bp1_1,0,none⟩),.pointer (some ⟨bp1_2,0,none⟩),.pointer (some ⟨bp1_3,0,none⟩)].toArray].toArray w fun e w'=>∃ v,e=.returned v∧(v=.tuple [.int .i64 r.1,.int .i64 r.2].toArray∧Gr w w'):=by
 have bw:=hbp0_0.lt
 have bx:=hbp0_1.lt
 have B:=g.lth
 have C:=i.lth
 have D:=j.lth
 have F:=f.lth
 have bz:=hbp1_0_p.lt
 have bA:=hbp1_0.lt
 have bB:=hbp1_1.lt
 have ba:=hbp1_2.lt
 have bb:=hbp1_3.lt
 unfold Qfa at hm
 refine Xj 24 Tryz.func55 rfl rfl rfl<|qs 3 rfl<|qe rfl (Xq rfl rfl) ?_
 rintro _ w1 ⟨b1,rfl,bc,R,G1⟩
 have bC:=G1.size
 have bd:=R.lt
 refine qe rfl (Zz (cs:=[.int .i64 0]) Dm rfl) ?_
 rintro _ w2 ⟨b2,rfl,be,S,G2⟩
 have bD:=G2.size
 have bf:=S.lt
 refine qe rfl (Zz (cs:=[.int .i64 0]) Dm rfl) ?_
 rintro _ w3 ⟨b3,rfl,bg,T,G3⟩
 have bE:=G3.size
 have bh:=T.lt
 refine qd 2 rfl<|qe rfl (Zz (cs:=[.bool false]) Qnu rfl) ?_
 rintro _ w4 ⟨b4,rfl,bi,U,G4⟩
 have bF:=G4.size
 have bj:=U.lt
 refine qe rfl (Zs (cs':=[.bool true]) (He).siz rfl rfl rfl U rfl rfl) ?_
 rintro _ w5 ⟨ak,M5⟩
 have bG:=M5.size
 refine Qa<|Qh<|qs 1 rfl<|qm rfl<|Qa<|Xc ?_
 have Y1:=Gr.trans (Gr.trans (Gr.trans G1 G2) G3) G4
 have al:=((hbp0_0.gr Y1).md M5)
 have am:=((hbp0_1.gr Y1).md M5)
 obtain⟨l1,an,hm⟩:=Qc hm
 have V:=(((Gr.refl w).trans Y1).md M5)
 have ao:=((g.gr Y1).md M5 (Xs B))
 have ap:=((i.gr Y1).md M5 (Xs C))
 have aq:=((j.gr Y1).md M5 (Xs D))
 have ar:=((f.gr Y1).md M5 (Xs F))
 have au:=((hbp1_0_p.gr Y1).md M5)
 have av:=((hbp1_0.gr Y1).md M5)
 have aw:=((hbp1_1.gr Y1).md M5)
 have ax:=((hbp1_2.gr Y1).md M5)
 have ay:=((hbp1_3.gr Y1).md M5)
 have Y2:=Gr.trans (Gr.trans G2 G3) G4
 have az:=((R.gr Y2).md M5)
 have Y3:=Gr.trans G3 G4
 have aA:=((S.gr Y3).md M5)
 have aB:=((T.gr G4).md M5)
 refine Oy (gf:=146) rfl Qpd (Qtn z A _ _ _ an _ al am) (by intro x hx;obtain⟨a,_,rfl⟩:=List.mem_map.1 hx;rfl) rfl _ (fun _ _ _ _=>False) ([b2,b3,b4]) (Bk (α:=Int × Int × Bool) (fun⟨a5,a6,a7⟩ rk=>Ku (Qbk d q s t) Qbi (List.drop rk l1) (a5,a6,a7)=some r) (fun⟨a5,a6,a7⟩=>([b2,b3,b4])) (fun⟨a5,a6,a7⟩ W=>Bx W b2 3 ([.int .i64 a5])∧Bx W b3 3 ([.int .i64 a6])∧Bx W b4 4 ([.bool a7])∧True) (by rintro⟨a5,a6,a7⟩ W ⟨F0,F1,F2,_⟩ b hb;have q0:=F0.lt;have q1:=F1.lt;have q2:=F2.lt;replace hb:b∈([b2,b3,b4]):=hb;simp only[List.mem_cons,List.mem_append,Xt,List.not_mem_nil,or_false,false_or,not_or,ne_eq,List.nil_append,List.cons_append,true_and,and_true,false_and,and_false,not_true_eq_false,not_false_eq_true,or_true,true_or] at hb;omega) (by rintro⟨a5,a6,a7⟩ W W' ⟨F0,F1,F2,_⟩ E hs;replace hs:∀ b∈([b2,b3,b4]),W'.heap[b]? = W.heap[b]? := hs;exact⟨(hs _ (by simp)).trans F0,(hs _ (by simp)).trans F1,(hs _ (by simp)).trans F2,trivial⟩)) (fun _=>Qgf) (by intro b hb;simp only[List.mem_cons,List.mem_append,Xt,List.not_mem_nil,or_false,false_or,not_or,ne_eq,List.nil_append,List.cons_append,true_and,and_true,false_and,and_false,not_true_eq_false,not_false_eq_true,or_true,true_or] at hb ⊢;omega) ⟨⟨0,0,true⟩,hm,rfl,aA,aB,ak,trivial⟩ ?_ ?_ ?_
 · rintro l rk x fp w6 hl hx _ K6 hF hln Xy
   clear hm
   obtain⟨e8,hxe,rfl⟩:=map_some hx
   have m:Kz [(1,b2),(1,b3),(1,b4)] w5 w6:=Gv K6 (by intro k hk;simp only[Ze,and_true,List.mem_cons,List.mem_append,Xt,List.not_mem_nil,or_false,false_or,not_or,ne_eq,List.nil_append,List.cons_append,true_and,and_true,false_and,and_false,not_true_eq_false,not_false_eq_true,or_true,true_or] at hk ⊢;omega)
   have bH:=K6.size
   refine qg 1 rfl<|qm rfl<|Qj<|⟨rfl,(Gr.refl _),?_⟩
   rintro w7 M7 ⟨⟨a5,a6,a7⟩,hm,rfl,n,p,o,-⟩
   have bI:=M7.size
   have bk:=n.lt
   have bm:=p.lt
   have bo:=o.lt
   replace hm:=Am hm hxe
   generalize hnx1:Ku (Qbk d q s t) Qbi (List.drop (rk+1) l1)=aC at hm
   unfold Qbk at hm
   try dsimp only at hm
   refine Xc<|qs 4 rfl ?_
   have aD:=((az.kz m).md M7)
   refine qv rfl (Qf Qki rfl aD rfl)<|qm rfl ?_
   have aE:=((au.kz m).md M7)
   have aF:=((ao.kz m (Sv (Xs (b:=b2) B) (Xs (b:=b3) B) (Xs (b:=b4) B))).md M7 (Xs B))
   have aG:=((ap.kz m (Sv (Xs (b:=b2) C) (Xs (b:=b3) C) (Xs (b:=b4) C))).md M7 (Xs C))
   have aH:=((aq.kz m (Sv (Xs (b:=b2) D) (Xs (b:=b3) D) (Xs (b:=b4) D))).md M7 (Xs D))
   have aI:=((ar.kz m (Sv (Xs (b:=b2) F) (Xs (b:=b3) F) (Xs (b:=b4) F))).md M7 (Xs F))
   have aJ:=((av.kz m).md M7)
   have aK:=((aw.kz m).md M7)
   have aL:=((ax.kz m).md M7)
   have aM:=((ay.kz m).md M7)
   obtain⟨x9,aN,hm⟩:=Qc hm
   refine qe rfl (Gp Qqj rfl rfl (Qtq aN aE aF aG aH aI aJ aK aL aM)) ?_
   rintro _ w8 ⟨rfl,G8⟩
   have bJ:=G8.size
   refine qm rfl<|Qa ?_
   have bK:=(((V.kz m).md M7).trans G8)
   refine qj (β:=Bool) (rg 14 6) (fun K=>[(19,.bool K)]) (fun K wr=>(Qbj a5 a6 a7 aC e8 x9 K=some r)∧Kz [] w8 wr) ?_ ?_
   · refine qg 6 rfl ?_
     have aO:=(o.gr G8)
     refine qv rfl (Qf (v:=.bool a7) He rfl aO rfl)<|Hm hm rfl (Qt rfl) (fun c2 hm=>?_) (fun c2 hm=>?_)
     · refine qn 4 rfl<|Qj ?_
       exact⟨rfl,true,Qi,hm,Qw⟩
     refine qm rfl ?_
     have aP:=(n.gr G8)
     refine qv rfl (Qf (v:=.int .i64 a5) Qe rfl aP rfl)<|qv rfl (Ky (a:=x9) (b:=a5) rfl rfl)<|qm rfl<|Qj ?_
     exact⟨rfl,(decide (a5<x9)),Qi,hm,Qw⟩
   clear hm;rintro K w9 ⟨hm,K9⟩
   have bL:=K9.size
   unfold Qbj at hm
   refine Wz hm rfl (fun c1 hm=>?_) (fun c1 hm=>?_)
   · refine Jb<|Xi ?_
     have aQ:=((n.gr G8).kz K9)
     have aR:=((p.gr G8).kz K9)
     have aS:=((o.gr G8).kz K9)
     have K_63:Kz [(1,b2),(1,b3),(1,b4)] w7 w9:=((Kz.gr (Kz.refl _ _) G8).kz K9)
     have Kq63:Kp ([b2,b3,b4]) w7 w9:=Rj K_63 (by intro k hk;simp only[Ze,and_true,List.mem_cons,List.mem_append,Xt,List.not_mem_nil,or_false,false_or,not_or,ne_eq,List.nil_append,List.cons_append,true_and,and_true,false_and,and_false,not_true_eq_false,not_false_eq_true,or_true,true_or] at hk ⊢;omega)
     subst hnx1
     exact⟨Kq63,([b2,b3,b4]),(by intro c hc;simp only[List.mem_cons,List.mem_append,Xt,List.not_mem_nil,or_false,false_or,not_or,ne_eq,List.nil_append,List.cons_append,true_and,and_true,false_and,and_false,not_true_eq_false,not_false_eq_true,or_true,true_or] at hc ⊢;omega),⟨⟨a5,a6,a7⟩,hm,rfl,aQ,aR,aS,trivial⟩⟩
   refine qg 5 rfl<|qn 2 rfl ?_
   have aT:=((n.gr G8).kz K9)
   refine qe rfl (Zs (cs':=[.int .i64 x9]) (Qe).siz rfl rfl rfl aT rfl rfl) ?_
   rintro _ bM ⟨X,L⟩
   have bN:=L.size
   have aU:=(((p.gr G8).kz K9).md L)
   refine qe rfl (Zs (cs':=[.int .i64 e8]) (Qe).siz rfl rfl rfl aU rfl rfl) ?_
   rintro _ bO ⟨Y,M⟩
   have bP:=M.size
   have aV:=((((o.gr G8).kz K9).md L).md M)
   refine qe rfl (Zs (cs':=[.bool false]) (He).siz rfl rfl rfl aV rfl rfl) ?_
   rintro _ Z ⟨aa,N⟩
   have bQ:=N.size
   refine Qj<|Xi ?_
   have aW:=((X.md M).md N)
   have aX:=(Y.md N)
   have K_60:Kz [(1,b2),(1,b3),(1,b4)] w7 Z:=(((((Kz.gr (Kz.refl _ _) G8).kz K9).md L).md M).md N)
   have Kq60:Kp ([b2,b3,b4]) w7 Z:=Rj K_60 (by intro k hk;simp only[Ze,and_true,List.mem_cons,List.mem_append,Xt,List.not_mem_nil,or_false,false_or,not_or,ne_eq,List.nil_append,List.cons_append,true_and,and_true,false_and,and_false,not_true_eq_false,not_false_eq_true,or_true,true_or] at hk ⊢;omega)
   subst hnx1
   exact⟨Kq60,([b2,b3,b4]),(by intro c hc;simp only[List.mem_cons,List.mem_append,Xt,List.not_mem_nil,or_false,false_or,not_or,ne_eq,List.nil_append,List.cons_append,true_and,and_true,false_and,and_false,not_true_eq_false,not_false_eq_true,or_true,true_or] at hc ⊢;omega),⟨⟨x9,e8,false⟩,hm,rfl,aW,aX,aa,trivial⟩⟩
 · clear hm;rintro G fp ab aY H ac ⟨⟨a5,a6,a7⟩,hm,rfl,u,y,O,-⟩ ad
   replace hm:=An hm
   have ae:Kz [(1,b2),(1,b3),(1,b4)] w5 ab:=Gv ad (by intro k hk;simp only[Ze,and_true,List.mem_cons,List.mem_append,Xt,List.not_mem_nil,or_false,false_or,not_or,ne_eq,List.nil_append,List.cons_append,true_and,and_true,false_and,and_false,not_true_eq_false,not_false_eq_true,or_true,true_or] at hk ⊢;omega)
   have bR:=ad.size
   have bp:=Df.lt (w:=ab) H
   simp only[List.mem_cons,List.mem_append,Xt,List.not_mem_nil,or_false,false_or,not_or,ne_eq,List.nil_append,List.cons_append,true_and,and_true,false_and,and_false,not_true_eq_false,not_false_eq_true,or_true,true_or,not_and] at ac
   have bq:=u.lt
   have br:=y.lt
   have bs:=O.lt
   unfold Qbi at hm
   try dsimp only at hm
   refine Xi<|Xa<|Qh<|dw [([b2,b3]),([b3]),([b2])] [(2,[1]),(3,[2])] (.leaf [(0,11),(1,12),(2,0),(3,0)]) ?_
   intro bS P bu
   refine Jp ?_
   have af:=(u.gr P)
   refine dh 1 rfl rfl (fun w hS=>Qf (v:=.int .i64 a5) Qe rfl (Bx.kp af hS) rfl) ?_
   have ag:=(y.gr P)
   refine dh 2 rfl rfl (fun w hS=>Qf (v:=.int .i64 a6) Qe rfl (Bx.kp ag hS) rfl)<|qz [(1,b2)] rfl (Zs (cs':=[.int .i64 a5]) (Qe).siz rfl rfl rfl af rfl rfl) ⟨fun _=>Qn,nofun,fun _=>Qn,trivial⟩ ?_
   rintro _ bT ⟨ah,I⟩
   have bU:=I.size
   refine kM I ?_
   have aZ:=(ag.md I)
   refine qz [(1,b3)] rfl (Zs (cs':=[.int .i64 a6]) (Qe).siz rfl rfl rfl aZ rfl rfl) ⟨fun _=>Qn,fun _=>Qn,nofun,trivial⟩ ?_
   rintro _ ai ⟨aj,J⟩
   have bV:=J.size
   refine kM J<|Qa<|Qp ?_
   have DL81:=(Df.md (Df.md (Df.gr H P) I) J)
   have Q:=Md.put (w:=ai) G (.deferred none)
   have zL81:=Q.size
   have a4:=((ah.md J).md Q)
   have a8:=(aj.md Q)
   have a9:Gr w (ai.putObj G (.deferred none)):=(((((V.kz ae).trans P).md I).md J).md Q)
   cases hm
   refine⟨_,_,⟨G,rfl,DL81,rfl⟩,Jk rfl (Uy Qe rfl a4) (Uy Qe rfl a8),?_⟩
   exact⟨rfl,a9⟩
 rintro _ _ _ _ _ _ _ _ _ h _
 exact h.elim
theorem Ig {p0 p1 p2 p3 bp0 vp0_7 zp0_7 gp0_7 op0_7 vp0_8 zp0_8 gp0_8 op0_8 vp0_9 zp0_9 gp0_9 op0_9 vp0_10 zp0_10 gp0_10 op0_10 r}(hm:Ru p0 p1 p2 p3=some r){w:World}(hbp0:Bx w bp0 116 (Qz.cs p0 vp0_7 vp0_8 vp0_9 vp0_10))(d:Rd w zp0_7 gp0_7 op0_7 1 vp0_7 (p0.rows.a0.map ic))(f:Rd w zp0_8 gp0_8 op0_8 1 vp0_8 (p0.rows.a1.map ic))(g:Rd w zp0_9 gp0_9 op0_9 1 vp0_9 (p0.rows.a2.map ic))(c:Rd w zp0_10 gp0_10 op0_10 1 vp0_10 (p0.rows.a3.map ic)):
 Calls Tryz.prog 52 [.pointer (some ⟨bp0,0,none⟩),.int .i64 p1,.int .i64 p2,.int .i64 p3].toArray w fun e w'=>∃ v,e=.returned v∧(v=.tuple [.int .i64 r.1,.int .i64 r.2].toArray∧Gr w w'):=by
 have N:=d.lth
 have O:=f.lth
 have P:=g.lth
 have Q:=c.lth
 have R:=hbp0.lt
 unfold Ru at hm
 refine Xj 17 Tryz.func52 rfl rfl rfl<|qs 6 rfl<|qe rfl (Xq rfl rfl) ?_
 rintro _ w1 ⟨b1,rfl,F,i,G1⟩
 have z6:=G1.size
 have S:=i.lt
 refine qe rfl (Xq (cs:=[.int .i64 p1]) rfl rfl) ?_
 rintro _ w2 ⟨b2,rfl,G,j,G2⟩
 have z8:=G2.size
 have T:=j.lt
 refine qe rfl (Xq (cs:=[.int .i64 p2]) rfl rfl) ?_
 rintro _ w3 ⟨b3,rfl,H,k,G3⟩
 have U:=G3.size
 have I:=k.lt
 refine qe rfl (Xq (cs:=[.int .i64 p3]) rfl rfl) ?_
 rintro _ w4 ⟨b4,rfl,J,h,G4⟩
 have V:=G4.size
 have K:=h.lt
 refine qn 2 rfl<|qd 9 rfl ?_
 have l:=(k.gr G4)
 refine qv rfl (Qf (v:=.int .i64 p2) Qe rfl l rfl)<|qv rfl (Qf (v:=.int .i64 p3) Qe rfl h rfl) ?_
 obtain⟨x1,q,hm⟩:=Qc hm
 refine qe rfl (eC Qqi rfl (Qto q)) ?_
 rintro _ w5 ⟨m,n,rfl,a,o,b,p,G5⟩
 have W:=G5.size
 have L:=a.lt
 have M:=b.lt
 refine qv rfl (Tx rfl rfl) ?_
 have Y1:=Gr.trans (Gr.trans (Gr.trans (Gr.trans G1 G2) G3) G4) G5
 have s:=(hbp0.gr Y1)
 have t:=(d.gr Y1)
 have u:=(f.gr Y1)
 have x:=(g.gr Y1)
 have y:=(c.gr Y1)
 have Y2:=Gr.trans (Gr.trans (Gr.trans G2 G3) G4) G5
 have z:=(i.gr Y2)
 have Y3:=Gr.trans (Gr.trans G3 G4) G5
 have A:=(j.gr Y3)
 have B:=(l.gr G5)
 have C:=(h.gr G5)
 obtain⟨x2,D,hm⟩:=Qc hm
 refine qe rfl (eC Qiq rfl (Qtl D a b s t u x y z A B C)) ?_
 rintro _ w6 ⟨rfl,G6⟩
 have X:=G6.size
 refine qn 4 rfl<|Qa<|Qp ?_
 have E:=(((Gr.refl w).trans Y1).trans G6)
 cases hm
 exact⟨_,_,rfl,Jk rfl (Ql rfl) (Ql rfl),rfl,E⟩
theorem Qfc {p0 r}(hm:Vd p0=some r){w:World}:
 Calls Tryz.prog 31 [.agg (Qo.cs p0).toArray].toArray w fun e w'=>∃ v,e=.returned v∧(∃ bc0 uc0_7 zc0_7 gc0_7 uc0_8 zc0_8 gc0_8 uc0_9 zc0_9 gc0_9 uc0_10 zc0_10 gc0_10,v=.pointer (some ⟨bc0,0,none⟩)∧Bx w' bc0 116 (Qz.cs r uc0_7 uc0_8 uc0_9 uc0_10)∧(w.heap.size≤bc0)∧Qk w' zc0_7 gc0_7 3 1 uc0_7 (r.rows.a0.map ic)∧Xb (zc0_7=0∨w.heap.size≤gc0_7)∧Xb (zc0_7=0∨gc0_7≠bc0)∧Qk w' zc0_8 gc0_8 3 1 uc0_8 (r.rows.a1.map ic)∧Xb (zc0_8=0∨w.heap.size≤gc0_8)∧Xb (zc0_8=0∨gc0_8≠bc0)∧Qk w' zc0_9 gc0_9 3 1 uc0_9 (r.rows.a2.map ic)∧Xb (zc0_9=0∨w.heap.size≤gc0_9)∧Xb (zc0_9=0∨gc0_9≠bc0)∧Qk w' zc0_10 gc0_10 3 1 uc0_10 (r.rows.a3.map ic)∧Xb (zc0_10=0∨w.heap.size≤gc0_10)∧Xb (zc0_10=0∨gc0_10≠bc0)∧Xb (zc0_8=0∨zc0_7=0∨gc0_8≠gc0_7)∧Xb (zc0_9=0∨zc0_7=0∨gc0_9≠gc0_7)∧Xb (zc0_9=0∨zc0_8=0∨gc0_9≠gc0_8)∧Xb (zc0_10=0∨zc0_7=0∨gc0_10≠gc0_7)∧Xb (zc0_10=0∨zc0_8=0∨gc0_10≠gc0_8)∧Xb (zc0_10=0∨zc0_9=0∨gc0_10≠gc0_9)∧Gr w w'):=by
 unfold Vd at hm
 refine Xj 116 Tryz.func31 rfl rfl rfl<|qs 2 rfl<|qe rfl (Xq (cs:=Qo.cs p0) rfl rfl) ?_
 rintro _ w1 ⟨b1,rfl,hW,ec,G1⟩
 have z1:=G1.size
 have i0:=ec.lt
 refine qm rfl<|Qa<|Qh<|dw [([])] [] (.leaf [(0,10),(1,10),(2,10),(4,10),(5,10),(6,10),(7,10),(3,0),(8,10),(9,0),(10,10)]) ?_
 intro w2 G2 i1
 refine Jp ?_
 have B3:=(ec.gr G2)
 refine dh 0 rfl rfl (fun w hS=>Xm Zj rfl (Bx.kp B3 hS) rfl)<|dh 0 rfl rfl (fun w hS=>Qg Ji rfl)<|dh 0 rfl rfl (fun w hS=>Qf (v:=.int .i64 p0.Depth) Qe rfl (Bx.kp B3 hS) rfl)<|dh 0 rfl rfl (fun w hS=>Qgo (cs:=Ww.cs (Ww.mk 0 1 2 4)) Qo2 rfl rfl)<|dh 0 rfl rfl (fun w hS=>Qg Kj rfl)<|dh 0 rfl rfl (fun w hS=>Qf (v:=bv p0.Kind) Zb rfl (Bx.kp B3 hS) rfl) ?_
 obtain⟨y1,f4,hm⟩:=Qc hm
 refine dh 0 rfl rfl (fun w hS=>Qx4 (l:=[0,1,2,4]) (c:=ic) (i:=Jn p0.Kind) Tryz.underlying113 (Qe).siz Qe rfl rfl rfl (Fe _ (fun _=>rfl) (fun _=>rfl)) rfl f4 rfl) ?_
 obtain⟨x2,f5,hm⟩:=Qc hm
 refine qz [] rfl (eC Qq0 rfl (Qtp f5)) ⟨fun _=>Qn,trivial⟩ ?_
 rintro _ w3 ⟨rfl,G3⟩
 have z4:=G3.size
 refine kG G3 ?_
 have S5:=((Kp.refl ([]) w2).gr G3)
 refine qh 0 rfl rfl S5 (fun w hS=>Kl (cs:=Qz.cs (Qz.mk p0 x2 (Kq.mk [] [] [] []) y1) (.slice none 0 0) (.slice none 0 0) (.slice none 0 0) (.slice none 0 0)) Qob rfl (Hu rfl rfl rfl (Hu rfl rfl rfl (Hu rfl rfl rfl rfl))))<|qz [] rfl (Xq (cs:=Qz.cs (Qz.mk p0 x2 (Kq.mk [] [] [] []) y1) (.slice none 0 0) (.slice none 0 0) (.slice none 0 0) (.slice none 0 0)) rfl rfl) ⟨fun _=>Qn,trivial⟩ ?_
 rintro _ w4 ⟨b4,rfl,hX,ed,G4⟩
 have z6:=G4.size
 have i2:=ed.lt
 refine kG G4 ?_
 have S8:=(S5.gr G4)
 refine dn 0 rfl rfl S8<|Qa<|Qh<|dw [([])] [] (.leaf [(0,10),(1,10),(2,10),(3,10),(4,10),(5,10),(6,10),(7,10),(8,10),(9,10)]) ?_
 intro w5 G5 i3
 refine Jp<|dh 0 rfl rfl (fun w hS=>Qg Ji rfl) ?_
 have B9:=(((B3.gr G3).gr G4).gr G5)
 refine dh 0 rfl rfl (fun w hS=>Qf (v:=.int .i64 p0.Depth) Qe rfl (Bx.kp B9 hS) rfl)<|dh 0 rfl rfl (fun w hS=>Xn (k:=.i64) (a:=p0.Depth) (b:=1) rfl rfl) ?_
 obtain⟨nn3,hnn3,hm⟩:=Qc hm
 refine dh 0 rfl rfl (fun w hS=>Hi (a:=1) (b:=(Qb (p0.Depth+1))) rfl rfl hnn3)<|dh 0 rfl rfl (fun w hS=>Js (k:=.i64) (a:=Xr 1 nn3) (b:=1) rfl rfl)<|dh 0 rfl rfl (fun w hS=>Qg Ji rfl)<|dh 0 rfl rfl (fun w hS=>Qf (v:=.int .i64 p0.Depth) Qe rfl (Bx.kp B9 hS) rfl)<|dh 0 rfl rfl (fun w hS=>Xn (k:=.i64) (a:=Qb ((Xr 1 nn3)-1)) (b:=p0.Depth) rfl rfl)<|dh 0 rfl rfl (fun w hS=>Xn (k:=.i64) (a:=Qb ((Qb ((Xr 1 nn3)-1))+p0.Depth)) (b:=1) rfl rfl)<|dm 0 rfl rfl ?_
 refine Qa<|Qh<|qs 5 rfl<|qm rfl<|qv rfl (Dl rfl rfl)<|qv rfl (Qg Qj8 rfl) ?_
 have ee:=(ed.gr G5)
 refine qv rfl (Qf (v:=.int .i64 y1) Qe rfl ee rfl)<|qm rfl<|Qa<|Xc ?_
 have f6:=((((((Gr.refl w).trans G1).trans G2).trans G3).trans G4).trans G5)
 refine Zv (α:=Nat × Int × List Int × List Int × List Int × List Int × Value × Nat × Nat × Value × Nat × Nat × Value × Nat × Nat × Value × Nat × Nat) ([5]++rg 33 11) (fun⟨n1,ae,aI,aJ,aK,aL,vy21,zy21,gy21,vy22,zy22,gy22,vy23,zy23,gy23,vy24,zy24,gy24⟩=>[(33,.int .i64 ae)]) (fun⟨n1,ae,aI,aJ,aK,aL,vy21,zy21,gy21,vy22,zy22,gy22,vy23,zy23,gy23,vy24,zy24,gy24⟩ wr=>(Qs (Qbs p0 y1 x2 nn3) n1 (ae,aI,aJ,aK,aL)=some r)∧Qk wr zy21 gy21 3 1 vy21 (aI.map ic)∧Xb (zy21=0∨w5.heap.size≤gy21)∧Qk wr zy22 gy22 3 1 vy22 (aJ.map ic)∧Xb (zy22=0∨w5.heap.size≤gy22)∧Qk wr zy23 gy23 3 1 vy23 (aK.map ic)∧Xb (zy23=0∨w5.heap.size≤gy23)∧Qk wr zy24 gy24 3 1 vy24 (aL.map ic)∧Xb (zy24=0∨w5.heap.size≤gy24)∧Xb (zy22=0∨zy21=0∨gy22≠gy21)∧Xb (zy23=0∨zy21=0∨gy23≠gy21)∧Xb (zy23=0∨zy22=0∨gy23≠gy22)∧Xb (zy24=0∨zy21=0∨gy24≠gy21)∧Xb (zy24=0∨zy22=0∨gy24≠gy22)∧Xb (zy24=0∨zy23=0∨gy24≠gy23)∧Bx wr b4 116 (Qz.cs (Qz.mk p0 x2 (Kq.mk aI aJ aK aL) y1) vy21 vy22 vy23 vy24)∧Kz [(1,b4)] w5 wr) (fun⟨n1,ae,aI,aJ,aK,aL,vy21,zy21,gy21,vy22,zy22,gy22,vy23,zy23,gy23,vy24,zy24,gy24⟩=>n1) ⟨Qy,0,[],[],[],[],(.slice none 0 0),0,0,(.slice none 0 0),0,0,(.slice none 0 0),0,0,(.slice none 0 0),0,0⟩ ?_ ?_ ?_
 · exact Qi
 · exact⟨hm,(Kx _ 0 3 1),⟨(.inl rfl)⟩,(Kx _ 0 3 1),⟨(.inl rfl)⟩,(Kx _ 0 3 1),⟨(.inl rfl)⟩,(Kx _ 0 3 1),⟨(.inl rfl)⟩,⟨(.inl rfl)⟩,⟨(.inl rfl)⟩,⟨(.inl rfl)⟩,⟨(.inl rfl)⟩,⟨(.inl rfl)⟩,⟨(.inl rfl)⟩,ee,Kz.refl _ _⟩
 clear hm;rintro⟨n1,ae,aI,aJ,aK,aL,vy21,zy21,gy21,vy22,zy22,gy22,vy23,zy23,gy23,vy24,zy24,gy24⟩ w6 ⟨hm,aT,d,aU,f,aV,g,aW,h,aX,aY,aD,aE,aF,aG,ak,K6⟩
 have i4:=K6.size
 have a5:=aT.lth
 have a6:=aU.lth
 have a7:=aV.lth
 have a8:=aW.lth
 have hY:=ak.lt
 have hb:=Zu hm;clear hm;obtain⟨n1,rfl,hm⟩:=hb
 generalize a9:Qs (Qbs p0 y1 x2 nn3) n1=hZ at hm
 unfold Qbs at hm
 try dsimp only at hm
 refine qs 1 rfl<|qv rfl (Zo (a:=ae) (b:=y1) rfl rfl)<|Qa<|Qh<|Zq hm rfl (fun c1 hm=>?_) (fun c1 hm=>?_)
 · refine qu<|Qh<|Xc<|qs 2 rfl<|qm rfl ?_
   refine qm rfl<|Qa<|dw [([b4])] [] (.leaf [(0,10),(1,10),(2,10),(4,10),(5,10),(3,0),(6,10),(7,0)]) ?_
   intro w7 G7 i5
   refine Jp<|dm 0 rfl rfl<|dm 0 rfl rfl<|dm 0 rfl rfl<|dh 0 rfl rfl (fun w hS=>Dl rfl rfl)<|dh 0 rfl rfl (fun w hS=>Qg Qej rfl) ?_
   obtain⟨bj,ef,hm⟩:=Qc hm
   refine qz [] rfl (Qeh (c:=ic) (a:=0) Fj Dm rfl ⟨rfl,rfl⟩ rfl ef (by decide)) ⟨fun _=>Qn,trivial⟩ ?_
   rintro bk w8 ⟨bm,h0,ba,G8⟩
   have i6:=G8.size
   have h1:=ba.lth
   refine kG G8 ?_
   by_cases c2:ae=0
   · replace hm:=Hw c2 hm
     have f7:=((Kp.refl ([b4]) w7).gr G8)
     refine qh 0 rfl rfl f7 (fun w hS=>Dk 0 Tryz.underlying114 (Zp).siz rfl rfl c2 (by decide)) ?_
     have Y1:=Gr.trans G7 G8
     have f8:=(ak.gr Y1)
     refine qz [(1,b4)] rfl (Zs (cs':=Qz.cs (Qz.mk p0 x2 (Kq.mk bj aJ aK aL) y1) bk vy22 vy23 vy24) (Zp).siz rfl rfl (Qk.oneB ba) f8 rfl rfl) ⟨fun _=>Qn,trivial⟩ ?_
     rintro _ w9 ⟨f9,M9⟩
     have i7:=M9.size
     refine kM M9<|Qj<|Xi<|Xa<|qg 2 rfl<|qv rfl (Xn (k:=.i64) (a:=ae) (b:=1) rfl rfl)<|qm rfl ?_
     refine Qj ?_
     have K_23:Kz [(1,b4)] w5 w9:=((K6.gr Y1).md M9)
     have ga:=(ba.md M9 (Qd ((.inr Qn):1=0∨bm≠b4)))
     have gb:=((aU.gr Y1).md M9 (Qu f))
     have gc:=((aV.gr Y1).md M9 (Qu g))
     have gf:=((aW.gr Y1).md M9 (Qu h))
     subst a9
     exact⟨rfl,⟨n1,Qb (ae+1),bj,aJ,aK,aL,bk,1,bm,vy22,zy22,gy22,vy23,zy23,gy23,vy24,zy24,gy24⟩,Qi,⟨hm,ga,⟨(.inr Qn)⟩,gb,⟨(Xe (A:=(fun x=>w5.heap.size≤x)) f)⟩,gc,⟨(Xe (A:=(fun x=>w5.heap.size≤x)) g)⟩,gf,⟨(Xe (A:=(fun x=>w5.heap.size≤x)) h)⟩,⟨(Ki (.inr (Qd a6.o)))⟩,⟨(Ki (.inr (Qd a7.o)))⟩,⟨(Qd aD.o)⟩,⟨(Ki (.inr (Qd a8.o)))⟩,⟨(Qd aF.o)⟩,⟨(Qd aG.o)⟩,f9,K_23⟩,Nat.lt_succ_self _⟩
   replace hm:=Hv c2 hm
   by_cases c3:ae=1
   · replace hm:=Hw c3 hm
     have gg:=((Kp.refl ([b4]) w7).gr G8)
     refine qh 0 rfl rfl gg (fun w hS=>Dk 1 Tryz.underlying114 (Zp).siz rfl rfl c3 (by decide)) ?_
     have Y2:=Gr.trans G7 G8
     have gh:=(ak.gr Y2)
     refine qz [(1,b4)] rfl (Zs (cs':=Qz.cs (Qz.mk p0 x2 (Kq.mk aI bj aK aL) y1) vy21 bk vy23 vy24) (Zp).siz rfl rfl (Qk.oneB ba) gh rfl rfl) ⟨fun _=>Qn,trivial⟩ ?_
     rintro _ gi ⟨eg,bs⟩
     have i8:=bs.size
     refine kM bs<|Qj<|Xi<|Xa<|qg 2 rfl<|qv rfl (Xn (k:=.i64) (a:=ae) (b:=1) rfl rfl)<|qm rfl ?_
     refine Qj ?_
     have K_31:Kz [(1,b4)] w5 gi:=((K6.gr Y2).md bs)
     have gj:=((aT.gr Y2).md bs (Qu d))
     have gk:=(ba.md bs (Qd ((.inr Qn):1=0∨bm≠b4)))
     have gl:=((aV.gr Y2).md bs (Qu g))
     have gm:=((aW.gr Y2).md bs (Qu h))
     subst a9
     exact⟨rfl,⟨n1,Qb (ae+1),aI,bj,aK,aL,vy21,zy21,gy21,bk,1,bm,vy23,zy23,gy23,vy24,zy24,gy24⟩,Qi,⟨hm,gj,⟨(Xe (A:=(fun x=>w5.heap.size≤x)) d)⟩,gk,⟨(.inr Qn)⟩,gl,⟨(Xe (A:=(fun x=>w5.heap.size≤x)) g)⟩,gm,⟨(Xe (A:=(fun x=>w5.heap.size≤x)) h)⟩,⟨(.inr (Qd a5.o))⟩,⟨(Qd aY.o)⟩,⟨(Ki (.inr (Qd a7.o)))⟩,⟨(Qd aE.o)⟩,⟨(Ki (.inr (Qd a8.o)))⟩,⟨(Qd aG.o)⟩,eg,K_31⟩,Nat.lt_succ_self _⟩
   replace hm:=Hv c3 hm
   by_cases c4:ae=2
   · replace hm:=Hw c4 hm
     have gn:=((Kp.refl ([b4]) w7).gr G8)
     refine qh 0 rfl rfl gn (fun w hS=>Dk 2 Tryz.underlying114 (Zp).siz rfl rfl c4 (by decide)) ?_
     have Y3:=Gr.trans G7 G8
     have go:=(ak.gr Y3)
     refine qz [(1,b4)] rfl (Zs (cs':=Qz.cs (Qz.mk p0 x2 (Kq.mk aI aJ bj aL) y1) vy21 vy22 bk vy24) (Zp).siz rfl rfl (Qk.oneB ba) go rfl rfl) ⟨fun _=>Qn,trivial⟩ ?_
     rintro _ gp ⟨eh,bu⟩
     have i9:=bu.size
     refine kM bu<|Qj<|Xi<|Xa<|qg 2 rfl<|qv rfl (Xn (k:=.i64) (a:=ae) (b:=1) rfl rfl)<|qm rfl ?_
     refine Qj ?_
     have K_39:Kz [(1,b4)] w5 gp:=((K6.gr Y3).md bu)
     have gq:=((aT.gr Y3).md bu (Qu d))
     have gs:=((aU.gr Y3).md bu (Qu f))
     have gu:=(ba.md bu (Qd ((.inr Qn):1=0∨bm≠b4)))
     have gv:=((aW.gr Y3).md bu (Qu h))
     subst a9
     exact⟨rfl,⟨n1,Qb (ae+1),aI,aJ,bj,aL,vy21,zy21,gy21,vy22,zy22,gy22,bk,1,bm,vy24,zy24,gy24⟩,Qi,⟨hm,gq,⟨(Xe (A:=(fun x=>w5.heap.size≤x)) d)⟩,gs,⟨(Xe (A:=(fun x=>w5.heap.size≤x)) f)⟩,gu,⟨(.inr Qn)⟩,gv,⟨(Xe (A:=(fun x=>w5.heap.size≤x)) h)⟩,⟨(Qd aX.o)⟩,⟨(.inr (Qd a5.o))⟩,⟨(.inr (Qd a6.o))⟩,⟨(Qd aE.o)⟩,⟨(Qd aF.o)⟩,⟨(Ki (.inr (Qd a8.o)))⟩,eh,K_39⟩,Nat.lt_succ_self _⟩
   replace hm:=Hv c4 hm
   by_cases c5:ae=3
   · replace hm:=Hw c5 hm
     have gw:=((Kp.refl ([b4]) w7).gr G8)
     refine qh 0 rfl rfl gw (fun w hS=>Dk 3 Tryz.underlying114 (Zp).siz rfl rfl c5 (by decide)) ?_
     have Y4:=Gr.trans G7 G8
     have gx:=(ak.gr Y4)
     refine qz [(1,b4)] rfl (Zs (cs':=Qz.cs (Qz.mk p0 x2 (Kq.mk aI aJ aK bj) y1) vy21 vy22 vy23 bk) (Zp).siz rfl rfl (Qk.oneB ba) gx rfl rfl) ⟨fun _=>Qn,trivial⟩ ?_
     rintro _ gy ⟨ei,bw⟩
     have ja:=bw.size
     refine kM bw<|Qj<|Xi<|Xa<|qg 2 rfl<|qv rfl (Xn (k:=.i64) (a:=ae) (b:=1) rfl rfl)<|qm rfl ?_
     refine Qj ?_
     have K_47:Kz [(1,b4)] w5 gy:=((K6.gr Y4).md bw)
     have gz:=((aT.gr Y4).md bw (Qu d))
     have gA:=((aU.gr Y4).md bw (Qu f))
     have gB:=((aV.gr Y4).md bw (Qu g))
     have gC:=(ba.md bw (Qd ((.inr Qn):1=0∨bm≠b4)))
     subst a9
     exact⟨rfl,⟨n1,Qb (ae+1),aI,aJ,aK,bj,vy21,zy21,gy21,vy22,zy22,gy22,vy23,zy23,gy23,bk,1,bm⟩,Qi,⟨hm,gz,⟨(Xe (A:=(fun x=>w5.heap.size≤x)) d)⟩,gA,⟨(Xe (A:=(fun x=>w5.heap.size≤x)) f)⟩,gB,⟨(Xe (A:=(fun x=>w5.heap.size≤x)) g)⟩,gC,⟨(.inr Qn)⟩,⟨(Qd aX.o)⟩,⟨(Qd aY.o)⟩,⟨(Qd aD.o)⟩,⟨(.inr (Qd a5.o))⟩,⟨(.inr (Qd a6.o))⟩,⟨(.inr (Qd a7.o))⟩,ei,K_47⟩,Nat.lt_succ_self _⟩
   replace hm:=Hv c5 hm
   cases hm
 refine Zd<|Xh<|Xh<|Zc<|Xa<|Qh<|Qh ?_
 refine qg 4 rfl<|qv rfl (Qg Ji rfl) ?_
 have bb:=(B9.kz K6)
 refine qv rfl (Qf (v:=.int .i64 p0.Depth) Qe rfl bb rfl)<|qv rfl (Xn (k:=.i64) (a:=p0.Depth) (b:=1) rfl rfl)<|qm rfl<|Qa<|Xc ?_
 have ej:=(f6.kz K6)
 refine Zv (α:=Nat × Int × List Int × List Int × List Int × List Int) ([6,7,8,9]++rg 47 68) (fun⟨n2,j,bx,bz,bA,bB⟩=>[(47,.int .i64 j)]) (fun⟨n2,j,bx,bz,bA,bB⟩ wr=>(Qs (Qbv p0 y1 x2) n2 (j,bx,bz,bA,bB)=some r)∧Qk wr zy21 gy21 3 1 vy21 (bx.map ic)∧Xb (zy21=0∨(gy21=gy21∧zy21≠0)∨w6.heap.size≤gy21)∧Qk wr zy22 gy22 3 1 vy22 (bz.map ic)∧Xb (zy22=0∨(gy22=gy22∧zy22≠0)∨w6.heap.size≤gy22)∧Qk wr zy23 gy23 3 1 vy23 (bA.map ic)∧Xb (zy23=0∨(gy23=gy23∧zy23≠0)∨w6.heap.size≤gy23)∧Qk wr zy24 gy24 3 1 vy24 (bB.map ic)∧Xb (zy24=0∨(gy24=gy24∧zy24≠0)∨w6.heap.size≤gy24)∧Xb (zy22=0∨zy21=0∨gy22≠gy21)∧Xb (zy23=0∨zy21=0∨gy23≠gy21)∧Xb (zy23=0∨zy22=0∨gy23≠gy22)∧Xb (zy24=0∨zy21=0∨gy24≠gy21)∧Xb (zy24=0∨zy22=0∨gy24≠gy22)∧Xb (zy24=0∨zy23=0∨gy24≠gy23)∧Bx wr b4 116 (Qz.cs (Qz.mk p0 x2 (Kq.mk bx bz bA bB) y1) vy21 vy22 vy23 vy24)∧Kz [(1,b4),(zy21,gy21),(zy22,gy22),(zy23,gy23),(zy24,gy24)] w6 wr) (fun⟨n2,j,bx,bz,bA,bB⟩=>n2) ⟨Qy,0,aI,aJ,aK,aL⟩ ?_ ?_ ?_
 · exact Qi
 · exact⟨hm,aT,⟨Qn⟩,aU,⟨Qn⟩,aV,⟨Qn⟩,aW,⟨Qn⟩,⟨(Qd aX.o)⟩,⟨(Qd aY.o)⟩,⟨(Qd aD.o)⟩,⟨(Qd aE.o)⟩,⟨(Qd aF.o)⟩,⟨(Qd aG.o)⟩,ak,Kz.refl _ _⟩
 clear hm;rintro⟨n2,j,bx,bz,bA,bB⟩ aM ⟨hm,bc,z,bd,B,be,C,bf,D,bC,bD,bo,bp,bq,br,aH,aQ⟩
 have jb:=aQ.size
 have h2:=bc.lth
 have h3:=bd.lth
 have h4:=be.lth
 have h5:=bf.lth
 have h6:=aH.lt
 have hb:=Zu hm;clear hm;obtain⟨n2,rfl,hm⟩:=hb
 generalize dv:Qs (Qbv p0 y1 x2) n2=cr at hm
 unfold Qbv at hm
 try dsimp only at hm
 refine qs 1 rfl<|qv rfl (Zo (a:=j) (b:=Qb (p0.Depth+1)) rfl rfl)<|Qa<|Qh<|Zy hm rfl (fun c6 hm=>?_) (fun c6 hm=>?_)
 · refine Zd<|Xh<|Xh<|Zc<|Xa<|qs 2 rfl ?_
   refine qn 2 rfl<|Qa<|Qp ?_
   have ek:=(ej.kz aQ (Vt (Xe (A:=(fun x=>w.heap.size≤x)) f) (Xe (A:=(fun x=>w.heap.size≤x)) g) (Xe (A:=(fun x=>w.heap.size≤x)) h) (Xe (A:=(fun x=>w.heap.size≤x)) d)))
   cases hm
   exact⟨_,_,rfl,Qr rfl (Ql rfl),b4,vy21,zy21,gy21,vy22,zy22,gy22,vy23,zy23,gy23,vy24,zy24,gy24,rfl,aH,by omega,bc,⟨(Xu (A:=(fun x=>w.heap.size≤x)) z (Xe (A:=(fun x=>w.heap.size≤x)) d))⟩,⟨(Xu (A:=(fun x=>x≠b4)) z (Xe (A:=(fun x=>x≠b4)) d))⟩,bd,⟨(Xu (A:=(fun x=>w.heap.size≤x)) B (Xe (A:=(fun x=>w.heap.size≤x)) f))⟩,⟨(Xu (A:=(fun x=>x≠b4)) B (Xe (A:=(fun x=>x≠b4)) f))⟩,be,⟨(Xu (A:=(fun x=>w.heap.size≤x)) C (Xe (A:=(fun x=>w.heap.size≤x)) g))⟩,⟨(Xu (A:=(fun x=>x≠b4)) C (Xe (A:=(fun x=>x≠b4)) g))⟩,bf,⟨(Xu (A:=(fun x=>w.heap.size≤x)) D (Xe (A:=(fun x=>w.heap.size≤x)) h))⟩,⟨(Xu (A:=(fun x=>x≠b4)) D (Xe (A:=(fun x=>x≠b4)) h))⟩,⟨(Qd bC.o)⟩,⟨(Qd bD.o)⟩,⟨(Qd bo.o)⟩,⟨(Qd bp.o)⟩,⟨(Qd bq.o)⟩,⟨(Qd br.o)⟩,ek⟩
 refine qu<|Qh<|Xc<|qs 2 rfl<|qm rfl ?_
 refine qm rfl<|qd 5 rfl<|qm rfl<|qv rfl (Dl rfl rfl)<|qv rfl (Qg Qj8 rfl) ?_
 refine qv rfl (Qf (v:=.int .i64 y1) Qe rfl aH rfl)<|qm rfl<|Qa<|Xc ?_
 have ce:=(ej.kz aQ (Vt (Xe (A:=(fun x=>w.heap.size≤x)) f) (Xe (A:=(fun x=>w.heap.size≤x)) g) (Xe (A:=(fun x=>w.heap.size≤x)) h) (Xe (A:=(fun x=>w.heap.size≤x)) d)))
 refine Zv (α:=Nat × Int × List Int × List Int × List Int × List Int) ([7,8,9]++rg 54 60) (fun⟨n3,E,L,M,N,O⟩=>[(54,.int .i64 E)]) (fun⟨n3,E,L,M,N,O⟩ wr=>(Qs (Qbw p0 y1 x2 j cr) n3 (E,L,M,N,O)=some r)∧Qk wr zy21 gy21 3 1 vy21 (L.map ic)∧Xb (zy21=0∨(gy21=gy21∧zy21≠0)∨aM.heap.size≤gy21)∧Qk wr zy22 gy22 3 1 vy22 (M.map ic)∧Xb (zy22=0∨(gy22=gy22∧zy22≠0)∨aM.heap.size≤gy22)∧Qk wr zy23 gy23 3 1 vy23 (N.map ic)∧Xb (zy23=0∨(gy23=gy23∧zy23≠0)∨aM.heap.size≤gy23)∧Qk wr zy24 gy24 3 1 vy24 (O.map ic)∧Xb (zy24=0∨(gy24=gy24∧zy24≠0)∨aM.heap.size≤gy24)∧Xb (zy22=0∨zy21=0∨gy22≠gy21)∧Xb (zy23=0∨zy21=0∨gy23≠gy21)∧Xb (zy23=0∨zy22=0∨gy23≠gy22)∧Xb (zy24=0∨zy21=0∨gy24≠gy21)∧Xb (zy24=0∨zy22=0∨gy24≠gy22)∧Xb (zy24=0∨zy23=0∨gy24≠gy23)∧Bx wr b4 116 (Qz.cs (Qz.mk p0 x2 (Kq.mk L M N O) y1) vy21 vy22 vy23 vy24)∧Kz [(1,b4),(zy21,gy21),(zy22,gy22),(zy23,gy23),(zy24,gy24)] aM wr) (fun⟨n3,E,L,M,N,O⟩=>n3) ⟨Qy,0,bx,bz,bA,bB⟩ ?_ ?_ ?_
 · exact Qi
 · exact⟨hm,bc,⟨Qn⟩,bd,⟨Qn⟩,be,⟨Qn⟩,bf,⟨Qn⟩,⟨(Qd bC.o)⟩,⟨(Qd bD.o)⟩,⟨(Qd bo.o)⟩,⟨(Qd bp.o)⟩,⟨(Qd bq.o)⟩,⟨(Qd br.o)⟩,aH,Kz.refl _ _⟩
 clear hm;rintro⟨n3,E,L,M,N,O⟩ gD ⟨hm,al,n,am,s,an,t,ao,u,P,Q,F,G,H,I,V,af⟩
 have jc:=af.size
 have bI:=al.lth
 have bJ:=am.lth
 have bK:=an.lth
 have bL:=ao.lth
 have h7:=V.lt
 have hb:=Zu hm;clear hm;obtain⟨n3,rfl,hm⟩:=hb
 generalize bg:Qs (Qbw p0 y1 x2 j cr) n3=aP at hm
 unfold Qbw at hm
 try dsimp only at hm
 refine qs 1 rfl<|qv rfl (Zo (a:=E) (b:=y1) rfl rfl)<|Qa<|Qh<|Zy hm rfl (fun c7 hm=>?_) (fun c7 hm=>?_)
 · refine Zd<|Xh<|Xh<|Zc<|Xi<|Xa<|qg 2 rfl ?_
   refine qv rfl (Xn (k:=.i64) (a:=j) (b:=1) rfl rfl)<|qm rfl<|Qj ?_
   have K_292:Kz [(1,b4),(zy21,gy21),(zy22,gy22),(zy23,gy23),(zy24,gy24)] w6 gD:=(aQ.kz af (Vt (Qn:zy21=0∨(gy21=gy21∧zy21≠0)∨(gy21=gy22∧zy22≠0)∨(gy21=gy23∧zy23≠0)∨(gy21=gy24∧zy24≠0)∨w6.heap.size≤gy21) (Qn:zy22=0∨(gy22=gy21∧zy21≠0)∨(gy22=gy22∧zy22≠0)∨(gy22=gy23∧zy23≠0)∨(gy22=gy24∧zy24≠0)∨w6.heap.size≤gy22) (Qn:zy23=0∨(gy23=gy21∧zy21≠0)∨(gy23=gy22∧zy22≠0)∨(gy23=gy23∧zy23≠0)∨(gy23=gy24∧zy24≠0)∨w6.heap.size≤gy23) (Qn:zy24=0∨(gy24=gy21∧zy21≠0)∨(gy24=gy22∧zy22≠0)∨(gy24=gy23∧zy23≠0)∨(gy24=gy24∧zy24≠0)∨w6.heap.size≤gy24)))
   subst dv
   exact⟨rfl,⟨n2,Qb (j+1),L,M,N,O⟩,Qi,⟨hm,al,⟨Qn⟩,am,⟨Qn⟩,an,⟨Qn⟩,ao,⟨Qn⟩,⟨(Qd P.o)⟩,⟨(Qd Q.o)⟩,⟨(Qd F.o)⟩,⟨(Qd G.o)⟩,⟨(Qd H.o)⟩,⟨(Qd I.o)⟩,V,K_292⟩,Nat.lt_succ_self _⟩
 refine qu<|Qh<|Xc<|qs 2 rfl<|qm rfl ?_
 refine qm rfl<|qd 5 rfl<|qn 3 rfl ?_
 refine Qg8 28 Tryz.func50 rfl rfl rfl Qaq rfl rfl rfl rfl rfl<|qs 1 rfl<|qm rfl<|qd 6 rfl ?_
 refine qm rfl ?_
 obtain⟨nn65,hnn65,hm⟩:=Qc hm
 refine qv rfl (Hi (a:=1) (b:=j) rfl rfl hnn65)<|qv rfl (Js (k:=.i64) (a:=Xr 1 nn65) (b:=1) rfl rfl)<|qm rfl<|qv rfl (Xn (k:=.i64) (a:=Qb ((Xr 1 nn65)-1)) (b:=j) rfl rfl)<|qm rfl<|Qa<|Qh ?_
 refine qg 5 rfl<|qn 2 rfl ?_
 obtain⟨gE,el,hm⟩:=Qc hm
 refine qe rfl (eC Qiw rfl (Qks el)) ?_
 rintro _ m ⟨rfl,y⟩
 have jd:=y.size
 refine qv rfl (Xn (k:=.i64) (a:=Qb ((Qb ((Xr 1 nn65)-1))+j)) (b:=gE) rfl rfl)<|qm rfl<|qd 11 rfl<|qn 2 rfl ?_
 refine qv rfl (Dl rfl rfl)<|qv rfl (Qg Qej rfl) ?_
 by_cases c8:E=0
 · replace hm:=Hw c8 hm
   refine qv rfl (Dk 0 Tryz.underlying114 (Zp).siz rfl rfl c8 (by decide)) ?_
   have em:=(V.gr y)
   refine qv rfl (Qf (v:=vy21) Zp rfl em rfl)<|qn 3 rfl ?_
   have en:=(al.gr y)
   obtain⟨nn67,hnn67,hm⟩:=Qc hm
   refine qv rfl (Qdd (c:=ic) Tryz.underlying30 (Qe).siz rfl en rfl rfl rfl hnn67)<|qm rfl<|Qa<|Qp<|⟨_,_,rfl,Qr rfl (Ql rfl),?_⟩
   refine qm rfl<|qd 3 rfl<|qm rfl<|qv rfl (Eg Tryz.underlying30 rfl)<|qm rfl ?_
   refine Qa<|Xc ?_
   have gF:=((ce.kz af (Vt (Xu (A:=(fun x=>w.heap.size≤x)) z (Xe (A:=(fun x=>w.heap.size≤x)) d)) (Xu (A:=(fun x=>w.heap.size≤x)) B (Xe (A:=(fun x=>w.heap.size≤x)) f)) (Xu (A:=(fun x=>w.heap.size≤x)) C (Xe (A:=(fun x=>w.heap.size≤x)) g)) (Xu (A:=(fun x=>w.heap.size≤x)) D (Xe (A:=(fun x=>w.heap.size≤x)) h)))).trans y)
   have dy:=(am.gr y)
   have dz:=(an.gr y)
   have dA:=(ao.gr y)
   refine Zv (α:=Nat × Int × List Int) ([9]++rg 63 50) (fun⟨n4,Y,aN⟩=>[(63,.int .i64 Y)]) (fun⟨n4,Y,aN⟩ wr=>(Qs (Qbx p0 y1 x2 j E M N O aP nn65 nn67) n4 (Y,aN)=some r)∧Qk wr zy21 gy21 3 1 vy21 (aN.map ic)∧Xb (zy21=0∨(gy21=gy21∧zy21≠0)∨m.heap.size≤gy21)∧Bx wr b4 116 (Qz.cs (Qz.mk p0 x2 (Kq.mk aN M N O) y1) vy21 vy22 vy23 vy24)∧Kz [(1,b4),(zy21,gy21)] m wr) (fun⟨n4,Y,aN⟩=>n4) ⟨Qy,0,L⟩ ?_ ?_ ?_
   · exact Qi
   · exact⟨hm,en,⟨Qn⟩,em,Kz.refl _ _⟩
   clear hm;rintro⟨n4,Y,aN⟩ eo ⟨hm,ap,Z,aq,ag⟩
   have je:=ag.size
   have h8:=ap.lth
   have h9:=aq.lt
   have hb:=Zu hm;clear hm;obtain⟨n4,rfl,hm⟩:=hb
   generalize bh:Qs (Qbx p0 y1 x2 j E M N O aP nn65 nn67) n4=ct at hm
   unfold Qbx at hm
   try dsimp only at hm
   refine qs 1 rfl<|qv rfl (Zo (a:=Y) (b:=(nn67:Int)) rfl rfl)<|Qa<|Qh<|Zy hm rfl (fun c9 hm=>?_) (fun c9 hm=>?_)
   · refine Zd<|Xh<|Xh<|Zc<|Xi<|Xa<|qg 2 rfl ?_
     refine qv rfl (Xn (k:=.i64) (a:=E) (b:=1) rfl rfl)<|qm rfl<|Qj ?_
     have K_120:Kz [(1,b4),(zy21,gy21),(zy22,gy22),(zy23,gy23),(zy24,gy24)] aM eo:=((af.gr y).kz ag (Qd (Qn:zy21=0∨(gy21=gy21∧zy21≠0)∨(gy21=gy22∧zy22≠0)∨(gy21=gy23∧zy23≠0)∨(gy21=gy24∧zy24≠0)∨aM.heap.size≤gy21)))
     have ep:=(dy.kz ag (Jq ((Qd P.o):zy22=0∨zy21=0∨gy22≠gy21) (Xo (b:=b4) s (Qu f))))
     have er:=(dz.kz ag (Jq ((Qd Q.o):zy23=0∨zy21=0∨gy23≠gy21) (Xo (b:=b4) t (Qu g))))
     have es:=(dA.kz ag (Jq ((Qd G.o):zy24=0∨zy21=0∨gy24≠gy21) (Xo (b:=b4) u (Qu h))))
     subst bg
     exact⟨rfl,⟨n3,Qb (E+1),aN,M,N,O⟩,Qi,⟨hm,ap,⟨Qn⟩,ep,⟨Qn⟩,er,⟨Qn⟩,es,⟨Qn⟩,⟨(Ki (Xu (A:=(fun x=>zy22=0∨x≠gy22)) Z (Ki (Xu (A:=(fun x=>zy21=0∨x≠gy21)) s (Qd aX.o) (fun x hx=>(Qd a5.o)))) (fun x hx=>(Qd bJ.o))))⟩,⟨(Ki (Xu (A:=(fun x=>zy23=0∨x≠gy23)) Z (Ki (Xu (A:=(fun x=>zy21=0∨x≠gy21)) t (Qd aY.o) (fun x hx=>(Qd a5.o)))) (fun x hx=>(Qd bK.o))))⟩,⟨(Qd F.o)⟩,⟨(Ki (Xu (A:=(fun x=>zy24=0∨x≠gy24)) Z (Ki (Xu (A:=(fun x=>zy21=0∨x≠gy21)) u (Qd aE.o) (fun x hx=>(Qd a5.o)))) (fun x hx=>(Qd bL.o))))⟩,⟨(Qd H.o)⟩,⟨(Qd I.o)⟩,aq,K_120⟩,Nat.lt_succ_self _⟩
   refine qu<|Qh<|Xc<|qs 2 rfl<|qm rfl ?_
   refine qm rfl<|Qa<|Xc ?_
   have gG:=(gF.kz ag (Qd (Xu (A:=(fun x=>w.heap.size≤x)) n (Xe (A:=(fun x=>w.heap.size≤x)) d))))
   refine qj (β:=Bool) (rg 77 8) (fun cf=>[(77,.bool cf)]) (fun cf wr=>(Qbq p0 y1 x2 j E M N O nn65 nn67 Y aN ct cf=some r)∧Kz [] eo wr) ?_ ?_
   · refine qg 8 rfl<|qv rfl (Qg Kj rfl) ?_
     have et:=((((bb.kz aQ (Vt (Qu (b:=b1) f) (Qu (b:=b1) g) (Qu (b:=b1) h) (Qu (b:=b1) d))).kz af (Vt (Xo (b:=b1) z (Qu d)) (Xo (b:=b1) B (Qu f)) (Xo (b:=b1) C (Qu g)) (Xo (b:=b1) D (Qu h)))).gr y).kz ag (Qd (Xo (b:=b1) n (Qu d))))
     refine qv rfl (Qf (v:=bv p0.Kind) Zb rfl et rfl)<|qv rfl (Jz (p:=p0.Kind) (q:=1#8) rfl rfl)<|Zm hm rfl (Qt rfl) (fun gH hm=>?_) (fun gH hm=>?_)
     · refine qm rfl<|qv rfl (Xv (a:=Y) (b:=0) rfl rfl)<|qn 2 rfl<|Qj ?_
       exact⟨rfl,(decide (Y=0)),Qi,hm,Qw⟩
     refine qn 4 rfl<|Qj ?_
     exact⟨rfl,false,Qi,hm,Qw⟩
   clear hm;rintro cf gI ⟨hm,R⟩
   have jf:=R.size
   unfold Qbq at hm
   refine Zh hm rfl (fun gJ hm=>?_) (fun gJ hm=>?_)
   · refine qg 4 rfl<|qn 2 rfl ?_
     obtain⟨eu,ew,hm⟩:=Qc hm
     obtain⟨jg,cu,hm⟩:=Qc hm
     refine qv rfl (Wr (sz:=1) rfl (Wq hnn67) Tryz.underlying30 (Qe).siz rfl rfl ew) ?_
     have ex:=(ap.kz R)
     have ia:=Qk.z1 ex cu
     refine qe rfl (Yt (i:=eu) (q:=0) (a':=1) (vs:=[.int .i64 1]) (c:=ic) (Qe).siz rfl rfl rfl rfl rfl ex cu (by first|rfl|omega) rfl rfl ⟨rfl,rfl⟩) ?_
     rintro _ gK ⟨ey,dB⟩
     have jh:=dB.size
     refine Qj<|Xi<|Xi<|Xa<|qg 2 rfl<|qv rfl (Xn (k:=.i64) (a:=Y) (b:=1) rfl rfl)<|qm rfl ?_
     refine Qj ?_
     have K_82:Kz [(1,b4),(zy21,gy21)] m gK:=((ag.kz R).md dB (Qd (Qn:zy21=0∨(gy21=gy21∧zy21≠0)∨m.heap.size≤gy21)))
     have gL:=((aq.kz R).md dB (Qd (Xo (b:=b4) Z (Qu d))))
     subst bh
     exact⟨rfl,⟨n4,Qb (Y+1),aN.set eu.toNat 1⟩,Qi,⟨hm,ey,⟨Qn⟩,gL,K_82⟩,Nat.lt_succ_self _⟩
   have ji:=(gG.kz R)
   refine qj (β:=Bool) (rg 88 12) (fun cg=>[(88,.bool cg)]) (fun cg wr=>(Ib p0 y1 x2 j E M N O nn65 nn67 Y aN ct cg=some r)∧Kz [] gI wr) ?_ ?_
   · refine qg 12 rfl<|qm rfl<|qv rfl (Xv (a:=Y) (b:=0) rfl rfl)<|Zm hm rfl (Qt rfl) (fun gM hm=>?_) (fun gM hm=>?_)
     · refine qn 7 rfl ?_
       refine qn 2 rfl<|Qj ?_
       exact⟨rfl,true,Qi,hm,Qw⟩
     refine qv rfl (Qg Kj rfl) ?_
     have ez:=(((((bb.kz aQ (Vt (Qu (b:=b1) f) (Qu (b:=b1) g) (Qu (b:=b1) h) (Qu (b:=b1) d))).kz af (Vt (Xo (b:=b1) z (Qu d)) (Xo (b:=b1) B (Qu f)) (Xo (b:=b1) C (Qu g)) (Xo (b:=b1) D (Qu h)))).gr y).kz ag (Qd (Xo (b:=b1) n (Qu d)))).kz R)
     refine qv rfl (Qf (v:=bv p0.Kind) Zb rfl ez rfl)<|qv rfl (Jz (p:=p0.Kind) (q:=1#8) rfl rfl)<|Zm hm rfl (Qt rfl) (fun gN hm=>?_) (fun gN hm=>?_)
     · refine qm rfl<|qv rfl (Xv (a:=j) (b:=0) rfl rfl)<|qn 3 rfl<|Qj ?_
       exact⟨rfl,(decide (j=0)),Qi,hm,Qw⟩
     refine qn 5 rfl<|Qj ?_
     exact⟨rfl,false,Qi,hm,Qw⟩
   clear hm;rintro cg jj ⟨hm,az⟩
   have jk:=az.size
   unfold Ib at hm
   refine Zh hm rfl (fun gO hm=>?_) (fun gO hm=>?_)
   · refine qg 4 rfl<|qn 2 rfl ?_
     obtain⟨eA,eB,hm⟩:=Qc hm
     obtain⟨jl,cv,hm⟩:=Qc hm
     refine qv rfl (Wr (sz:=1) rfl (Wq hnn67) Tryz.underlying30 (Qe).siz rfl rfl eB) ?_
     have eD:=((ap.kz R).kz az)
     have ib:=Qk.z1 eD cv
     refine qe rfl (Yt (i:=eA) (q:=0) (a':=0) (vs:=[.int .i64 0]) (c:=ic) (Qe).siz rfl rfl rfl rfl rfl eD cv (by first|rfl|omega) rfl rfl ⟨rfl,rfl⟩) ?_
     rintro _ gP ⟨eE,dC⟩
     have jm:=dC.size
     refine Qj<|Xi<|Xi<|Xa<|qg 2 rfl<|qv rfl (Xn (k:=.i64) (a:=Y) (b:=1) rfl rfl)<|qm rfl ?_
     refine Qj ?_
     have K_89:Kz [(1,b4),(zy21,gy21)] m gP:=(((ag.kz R).kz az).md dC (Qd (Qn:zy21=0∨(gy21=gy21∧zy21≠0)∨m.heap.size≤gy21)))
     have gQ:=(((aq.kz R).kz az).md dC (Qd (Xo (b:=b4) Z (Qu d))))
     subst bh
     exact⟨rfl,⟨n4,Qb (Y+1),aN.set eA.toNat 0⟩,Qi,⟨hm,eE,⟨Qn⟩,gQ,K_89⟩,Nat.lt_succ_self _⟩
   refine qs 3 rfl<|qm rfl<|qv rfl (Xv (a:=j) (b:=0) rfl rfl)<|qm rfl<|Qa<|Zq hm rfl (fun gR hm=>?_) (fun gR hm=>?_)
   · refine qg 7 rfl<|qn 4 rfl ?_
     have eF:=((aq.kz R).kz az)
     have eG:=((ap.kz R).kz az)
     have gS:=(((dy.kz ag (Jq ((Qd P.o):zy22=0∨zy21=0∨gy22≠gy21) (Xo (b:=b4) s (Qu f)))).kz R).kz az)
     have gT:=(((dz.kz ag (Jq ((Qd Q.o):zy23=0∨zy21=0∨gy23≠gy21) (Xo (b:=b4) t (Qu g)))).kz R).kz az)
     have gU:=(((dA.kz ag (Jq ((Qd G.o):zy24=0∨zy21=0∨gy24≠gy21) (Xo (b:=b4) u (Qu h)))).kz R).kz az)
     obtain⟨dD,eH,hm⟩:=Qc hm
     refine qe rfl (eC Ac rfl (Ij eH eF (Qk.rd eG) (Qk.rd gS) (Qk.rd gT) (Qk.rd gU))) ?_
     rintro _ jn ⟨rfl,ch⟩
     have jo:=ch.size
     obtain⟨eI,eJ,hm⟩:=Qc hm
     obtain⟨jp,cw,hm⟩:=Qc hm
     refine qv rfl (Wr (sz:=1) rfl (Wq hnn67) Tryz.underlying30 (Qe).siz rfl rfl eJ) ?_
     have eK:=(eG.gr ch)
     have ie:=Qk.z1 eK cw
     refine qe rfl (Yt (i:=eI) (q:=0) (a':=dD) (vs:=[.int .i64 dD]) (c:=ic) (Qe).siz rfl rfl rfl rfl rfl eK cw (by first|rfl|omega) rfl rfl ⟨rfl,rfl⟩) ?_
     rintro _ gV ⟨eL,dE⟩
     have jq:=dE.size
     refine Qj<|Xi<|Xi<|Xa<|qg 2 rfl<|qv rfl (Xn (k:=.i64) (a:=Y) (b:=1) rfl rfl)<|qm rfl ?_
     refine Qj ?_
     have K_100:Kz [(1,b4),(zy21,gy21)] m gV:=((((ag.kz R).kz az).gr ch).md dE (Qd (Qn:zy21=0∨(gy21=gy21∧zy21≠0)∨m.heap.size≤gy21)))
     have eM:=((eF.gr ch).md dE (Qd (Xo (b:=b4) Z (Qu d))))
     subst bh
     exact⟨rfl,⟨n4,Qb (Y+1),aN.set eI.toNat dD⟩,Qi,⟨hm,eL,⟨Qn⟩,eM,K_100⟩,Nat.lt_succ_self _⟩
   refine qg 12 rfl<|qn 6 rfl ?_
   have cx:=((aq.kz R).kz az)
   have cy:=((ap.kz R).kz az)
   have eN:=(((dy.kz ag (Jq ((Qd P.o):zy22=0∨zy21=0∨gy22≠gy21) (Xo (b:=b4) s (Qu f)))).kz R).kz az)
   have eO:=(((dz.kz ag (Jq ((Qd Q.o):zy23=0∨zy21=0∨gy23≠gy21) (Xo (b:=b4) t (Qu g)))).kz R).kz az)
   have eP:=(((dA.kz ag (Jq ((Qd G.o):zy24=0∨zy21=0∨gy24≠gy21) (Xo (b:=b4) u (Qu h)))).kz R).kz az)
   obtain⟨dF,eQ,hm⟩:=Qc hm
   refine qe rfl (eC Ad rfl (Ig eQ cx (Qk.rd cy) (Qk.rd eN) (Qk.rd eO) (Qk.rd eP))) ?_
   rintro _ jr ⟨rfl,ci⟩
   have ig:=ci.size
   refine qn 3 rfl ?_
   obtain⟨eR,eS,hm⟩:=Qc hm
   obtain⟨js,cz,hm⟩:=Qc hm
   refine qv rfl (Wr (sz:=1) rfl (Wq hnn67) Tryz.underlying30 (Qe).siz rfl rfl eS) ?_
   have cA:=(cy.gr ci)
   have gW:=Qk.z1 cA cz
   refine qe rfl (Yt (i:=eR) (q:=0) (a':=dF.1) (vs:=[.int .i64 dF.1]) (c:=ic) (Qe).siz rfl rfl rfl rfl rfl cA cz (by first|rfl|omega) rfl rfl ⟨rfl,rfl⟩) ?_
   rintro _ gX ⟨eT,dG⟩
   have ih:=dG.size
   refine Qj<|Xi<|Xi<|Xa<|qg 2 rfl<|qv rfl (Xn (k:=.i64) (a:=Y) (b:=1) rfl rfl)<|qm rfl ?_
   refine Qj ?_
   have K_111:Kz [(1,b4),(zy21,gy21)] m gX:=((((ag.kz R).kz az).gr ci).md dG (Qd (Qn:zy21=0∨(gy21=gy21∧zy21≠0)∨m.heap.size≤gy21)))
   have eU:=((cx.gr ci).md dG (Qd (Xo (b:=b4) Z (Qu d))))
   subst bh
   exact⟨rfl,⟨n4,Qb (Y+1),aN.set eR.toNat dF.1⟩,Qi,⟨hm,eT,⟨Qn⟩,eU,K_111⟩,Nat.lt_succ_self _⟩
 replace hm:=Hv c8 hm
 by_cases dH:E=1
 · replace hm:=Hw dH hm
   refine qv rfl (Dk 1 Tryz.underlying114 (Zp).siz rfl rfl dH (by decide)) ?_
   have cB:=(V.gr y)
   refine qv rfl (Qf (v:=vy22) Zp rfl cB rfl)<|qn 3 rfl ?_
   have cC:=(am.gr y)
   obtain⟨nn86,hnn86,hm⟩:=Qc hm
   refine qv rfl (Qdd (c:=ic) Tryz.underlying30 (Qe).siz rfl cC rfl rfl rfl hnn86)<|qm rfl<|Qa<|Qp<|⟨_,_,rfl,Qr rfl (Ql rfl),?_⟩
   refine qm rfl<|qd 3 rfl<|qm rfl<|qv rfl (Eg Tryz.underlying30 rfl)<|qm rfl ?_
   refine Qa<|Xc ?_
   have eV:=((ce.kz af (Vt (Xu (A:=(fun x=>w.heap.size≤x)) z (Xe (A:=(fun x=>w.heap.size≤x)) d)) (Xu (A:=(fun x=>w.heap.size≤x)) B (Xe (A:=(fun x=>w.heap.size≤x)) f)) (Xu (A:=(fun x=>w.heap.size≤x)) C (Xe (A:=(fun x=>w.heap.size≤x)) g)) (Xu (A:=(fun x=>w.heap.size≤x)) D (Xe (A:=(fun x=>w.heap.size≤x)) h)))).trans y)
   have bM:=(al.gr y)
   have bN:=(an.gr y)
   have bO:=(ao.gr y)
   refine Zv (α:=Nat × Int × List Int) ([9]++rg 63 50) (fun⟨n7,aa,aO⟩=>[(63,.int .i64 aa)]) (fun⟨n7,aa,aO⟩ wr=>(Qs (Qby p0 y1 x2 j E L N O aP nn65 nn86) n7 (aa,aO)=some r)∧Qk wr zy22 gy22 3 1 vy22 (aO.map ic)∧Xb (zy22=0∨(gy22=gy22∧zy22≠0)∨m.heap.size≤gy22)∧Bx wr b4 116 (Qz.cs (Qz.mk p0 x2 (Kq.mk L aO N O) y1) vy21 vy22 vy23 vy24)∧Kz [(1,b4),(zy22,gy22)] m wr) (fun⟨n7,aa,aO⟩=>n7) ⟨Qy,0,M⟩ ?_ ?_ ?_
   · exact Qi
   · exact⟨hm,cC,⟨Qn⟩,cB,Kz.refl _ _⟩
   clear hm;rintro⟨n7,aa,aO⟩ eW ⟨hm,ar,ab,au,ah⟩
   have ii:=ah.size
   have gY:=ar.lth
   have gZ:=au.lt
   have hb:=Zu hm;clear hm;obtain⟨n7,rfl,hm⟩:=hb
   generalize bi:Qs (Qby p0 y1 x2 j E L N O aP nn65 nn86) n7=cD at hm
   unfold Qby at hm
   try dsimp only at hm
   refine qs 1 rfl<|qv rfl (Zo (a:=aa) (b:=(nn86:Int)) rfl rfl)<|Qa<|Qh<|Zy hm rfl (fun g0 hm=>?_) (fun g0 hm=>?_)
   · refine Zd<|Xh<|Xh<|Zc<|Xi<|Xa<|qg 2 rfl ?_
     refine qv rfl (Xn (k:=.i64) (a:=E) (b:=1) rfl rfl)<|qm rfl<|Qj ?_
     have K_176:Kz [(1,b4),(zy21,gy21),(zy22,gy22),(zy23,gy23),(zy24,gy24)] aM eW:=((af.gr y).kz ah (Qd (Qn:zy22=0∨(gy22=gy21∧zy21≠0)∨(gy22=gy22∧zy22≠0)∨(gy22=gy23∧zy23≠0)∨(gy22=gy24∧zy24≠0)∨aM.heap.size≤gy22)))
     have eX:=(bM.kz ah (Jq ((Qd P.o):zy21=0∨zy22=0∨gy21≠gy22) (Xo (b:=b4) n (Qu d))))
     have eY:=(bN.kz ah (Jq ((Qd F.o):zy23=0∨zy22=0∨gy23≠gy22) (Xo (b:=b4) t (Qu g))))
     have eZ:=(bO.kz ah (Jq ((Qd H.o):zy24=0∨zy22=0∨gy24≠gy22) (Xo (b:=b4) u (Qu h))))
     subst bg
     exact⟨rfl,⟨n3,Qb (E+1),L,aO,N,O⟩,Qi,⟨hm,eX,⟨Qn⟩,ar,⟨Qn⟩,eY,⟨Qn⟩,eZ,⟨Qn⟩,⟨(Xu (A:=(fun x=>zy21=0∨x≠gy21)) ab (Ki (Xu (A:=(fun x=>zy22=0∨x≠gy22)) n (Qd aX.o) (fun x hx=>(Qd a6.o)))) (fun x hx=>(Qd bI.o)))⟩,⟨(Qd Q.o)⟩,⟨(Ki (Xu (A:=(fun x=>zy23=0∨x≠gy23)) ab (Ki (Xu (A:=(fun x=>zy22=0∨x≠gy22)) t (Qd aD.o) (fun x hx=>(Qd a6.o)))) (fun x hx=>(Qd bK.o))))⟩,⟨(Qd G.o)⟩,⟨(Ki (Xu (A:=(fun x=>zy24=0∨x≠gy24)) ab (Ki (Xu (A:=(fun x=>zy22=0∨x≠gy22)) u (Qd aF.o) (fun x hx=>(Qd a6.o)))) (fun x hx=>(Qd bL.o))))⟩,⟨(Qd I.o)⟩,au,K_176⟩,Nat.lt_succ_self _⟩
   refine qu<|Qh<|Xc<|qs 2 rfl<|qm rfl ?_
   refine qm rfl<|Qa<|Xc ?_
   have e0:=(eV.kz ah (Qd (Xu (A:=(fun x=>w.heap.size≤x)) s (Xe (A:=(fun x=>w.heap.size≤x)) f))))
   refine qj (β:=Bool) (rg 77 8) (fun cj=>[(77,.bool cj)]) (fun cj wr=>(Qbr p0 y1 x2 j E L N O nn65 nn86 aa aO cD cj=some r)∧Kz [] eW wr) ?_ ?_
   · refine qg 8 rfl<|qv rfl (Qg Kj rfl) ?_
     have e1:=((((bb.kz aQ (Vt (Qu (b:=b1) f) (Qu (b:=b1) g) (Qu (b:=b1) h) (Qu (b:=b1) d))).kz af (Vt (Xo (b:=b1) z (Qu d)) (Xo (b:=b1) B (Qu f)) (Xo (b:=b1) C (Qu g)) (Xo (b:=b1) D (Qu h)))).gr y).kz ah (Qd (Xo (b:=b1) s (Qu f))))
     refine qv rfl (Qf (v:=bv p0.Kind) Zb rfl e1 rfl)<|qv rfl (Jz (p:=p0.Kind) (q:=1#8) rfl rfl)<|Zm hm rfl (Qt rfl) (fun g1 hm=>?_) (fun g1 hm=>?_)
     · refine qm rfl<|qv rfl (Xv (a:=aa) (b:=0) rfl rfl)<|qn 2 rfl<|Qj ?_
       exact⟨rfl,(decide (aa=0)),Qi,hm,Qw⟩
     refine qn 4 rfl<|Qj ?_
     exact⟨rfl,false,Qi,hm,Qw⟩
   clear hm;rintro cj g2 ⟨hm,S⟩
   have ij:=S.size
   unfold Qbr at hm
   refine Zh hm rfl (fun g3 hm=>?_) (fun g3 hm=>?_)
   · refine qg 4 rfl<|qn 2 rfl ?_
     obtain⟨e2,e3,hm⟩:=Qc hm
     obtain⟨jt,cE,hm⟩:=Qc hm
     refine qv rfl (Wr (sz:=1) rfl (Wq hnn86) Tryz.underlying30 (Qe).siz rfl rfl e3) ?_
     have cF:=(ar.kz S)
     have g4:=Qk.z1 cF cE
     refine qe rfl (Yt (i:=e2) (q:=0) (a':=1) (vs:=[.int .i64 1]) (c:=ic) (Qe).siz rfl rfl rfl rfl rfl cF cE (by first|rfl|omega) rfl rfl ⟨rfl,rfl⟩) ?_
     rintro _ g5 ⟨e4,dI⟩
     have ik:=dI.size
     refine Qj<|Xi<|Xi<|Xa<|qg 2 rfl<|qv rfl (Xn (k:=.i64) (a:=aa) (b:=1) rfl rfl)<|qm rfl ?_
     refine Qj ?_
     have K_138:Kz [(1,b4),(zy22,gy22)] m g5:=((ah.kz S).md dI (Qd (Qn:zy22=0∨(gy22=gy22∧zy22≠0)∨m.heap.size≤gy22)))
     have e5:=((au.kz S).md dI (Qd (Xo (b:=b4) ab (Qu f))))
     subst bi
     exact⟨rfl,⟨n7,Qb (aa+1),aO.set e2.toNat 1⟩,Qi,⟨hm,e4,⟨Qn⟩,e5,K_138⟩,Nat.lt_succ_self _⟩
   have il:=(e0.kz S)
   refine qj (β:=Bool) (rg 88 12) (fun ck=>[(88,.bool ck)]) (fun ck wr=>(Ic p0 y1 x2 j E L N O nn65 nn86 aa aO cD ck=some r)∧Kz [] g2 wr) ?_ ?_
   · refine qg 12 rfl<|qm rfl<|qv rfl (Xv (a:=aa) (b:=0) rfl rfl)<|Zm hm rfl (Qt rfl) (fun g6 hm=>?_) (fun g6 hm=>?_)
     · refine qn 7 rfl ?_
       refine qn 2 rfl<|Qj ?_
       exact⟨rfl,true,Qi,hm,Qw⟩
     refine qv rfl (Qg Kj rfl) ?_
     have e6:=(((((bb.kz aQ (Vt (Qu (b:=b1) f) (Qu (b:=b1) g) (Qu (b:=b1) h) (Qu (b:=b1) d))).kz af (Vt (Xo (b:=b1) z (Qu d)) (Xo (b:=b1) B (Qu f)) (Xo (b:=b1) C (Qu g)) (Xo (b:=b1) D (Qu h)))).gr y).kz ah (Qd (Xo (b:=b1) s (Qu f)))).kz S)
     refine qv rfl (Qf (v:=bv p0.Kind) Zb rfl e6 rfl)<|qv rfl (Jz (p:=p0.Kind) (q:=1#8) rfl rfl)<|Zm hm rfl (Qt rfl) (fun g7 hm=>?_) (fun g7 hm=>?_)
     · refine qm rfl<|qv rfl (Xv (a:=j) (b:=0) rfl rfl)<|qn 3 rfl<|Qj ?_
       exact⟨rfl,(decide (j=0)),Qi,hm,Qw⟩
     refine qn 5 rfl<|Qj ?_
     exact⟨rfl,false,Qi,hm,Qw⟩
   clear hm;rintro ck ju ⟨hm,aA⟩
   have im:=aA.size
   unfold Ic at hm
   refine Zh hm rfl (fun g8 hm=>?_) (fun g8 hm=>?_)
   · refine qg 4 rfl<|qn 2 rfl ?_
     obtain⟨e7,e8,hm⟩:=Qc hm
     obtain⟨jv,cG,hm⟩:=Qc hm
     refine qv rfl (Wr (sz:=1) rfl (Wq hnn86) Tryz.underlying30 (Qe).siz rfl rfl e8) ?_
     have cH:=((ar.kz S).kz aA)
     have g9:=Qk.z1 cH cG
     refine qe rfl (Yt (i:=e7) (q:=0) (a':=0) (vs:=[.int .i64 0]) (c:=ic) (Qe).siz rfl rfl rfl rfl rfl cH cG (by first|rfl|omega) rfl rfl ⟨rfl,rfl⟩) ?_
     rintro _ ha ⟨e9,dJ⟩
     have io:=dJ.size
     refine Qj<|Xi<|Xi<|Xa<|qg 2 rfl<|qv rfl (Xn (k:=.i64) (a:=aa) (b:=1) rfl rfl)<|qm rfl ?_
     refine Qj ?_
     have K_145:Kz [(1,b4),(zy22,gy22)] m ha:=(((ah.kz S).kz aA).md dJ (Qd (Qn:zy22=0∨(gy22=gy22∧zy22≠0)∨m.heap.size≤gy22)))
     have fa:=(((au.kz S).kz aA).md dJ (Qd (Xo (b:=b4) ab (Qu f))))
     subst bi
     exact⟨rfl,⟨n7,Qb (aa+1),aO.set e7.toNat 0⟩,Qi,⟨hm,e9,⟨Qn⟩,fa,K_145⟩,Nat.lt_succ_self _⟩
   refine qs 3 rfl<|qm rfl<|qv rfl (Xv (a:=j) (b:=0) rfl rfl)<|qm rfl<|Qa<|Zq hm rfl (fun hc hm=>?_) (fun hc hm=>?_)
   · refine qg 7 rfl<|qn 4 rfl ?_
     have cI:=((au.kz S).kz aA)
     have fb:=(((bM.kz ah (Jq ((Qd P.o):zy21=0∨zy22=0∨gy21≠gy22) (Xo (b:=b4) n (Qu d)))).kz S).kz aA)
     have cJ:=((ar.kz S).kz aA)
     have fc:=(((bN.kz ah (Jq ((Qd F.o):zy23=0∨zy22=0∨gy23≠gy22) (Xo (b:=b4) t (Qu g)))).kz S).kz aA)
     have fd:=(((bO.kz ah (Jq ((Qd H.o):zy24=0∨zy22=0∨gy24≠gy22) (Xo (b:=b4) u (Qu h)))).kz S).kz aA)
     obtain⟨dK,fe,hm⟩:=Qc hm
     refine qe rfl (eC Ac rfl (Ij fe cI (Qk.rd fb) (Qk.rd cJ) (Qk.rd fc) (Qk.rd fd))) ?_
     rintro _ jw ⟨rfl,cl⟩
     have ip:=cl.size
     obtain⟨cK,dL,hm⟩:=Qc hm
     obtain⟨iq,bP,hm⟩:=Qc hm
     refine qv rfl (Wr (sz:=1) rfl (Wq hnn86) Tryz.underlying30 (Qe).siz rfl rfl dL) ?_
     have cL:=(cJ.gr cl)
     have hd:=Qk.z1 cL bP
     refine qe rfl (Yt (i:=cK) (q:=0) (a':=dK) (vs:=[.int .i64 dK]) (c:=ic) (Qe).siz rfl rfl rfl rfl rfl cL bP (by first|rfl|omega) rfl rfl ⟨rfl,rfl⟩) ?_
     rintro _ he ⟨ff,dM⟩
     have ir:=dM.size
     refine Qj<|Xi<|Xi<|Xa<|qg 2 rfl<|qv rfl (Xn (k:=.i64) (a:=aa) (b:=1) rfl rfl)<|qm rfl ?_
     refine Qj ?_
     have K_156:Kz [(1,b4),(zy22,gy22)] m he:=((((ah.kz S).kz aA).gr cl).md dM (Qd (Qn:zy22=0∨(gy22=gy22∧zy22≠0)∨m.heap.size≤gy22)))
     have fg:=((cI.gr cl).md dM (Qd (Xo (b:=b4) ab (Qu f))))
     subst bi
     exact⟨rfl,⟨n7,Qb (aa+1),aO.set cK.toNat dK⟩,Qi,⟨hm,ff,⟨Qn⟩,fg,K_156⟩,Nat.lt_succ_self _⟩
   refine qg 12 rfl<|qn 6 rfl ?_
   have cM:=((au.kz S).kz aA)
   have fh:=(((bM.kz ah (Jq ((Qd P.o):zy21=0∨zy22=0∨gy21≠gy22) (Xo (b:=b4) n (Qu d)))).kz S).kz aA)
   have cN:=((ar.kz S).kz aA)
   have fi:=(((bN.kz ah (Jq ((Qd F.o):zy23=0∨zy22=0∨gy23≠gy22) (Xo (b:=b4) t (Qu g)))).kz S).kz aA)
   have fj:=(((bO.kz ah (Jq ((Qd H.o):zy24=0∨zy22=0∨gy24≠gy22) (Xo (b:=b4) u (Qu h)))).kz S).kz aA)
   obtain⟨bQ,dN,hm⟩:=Qc hm
   refine qe rfl (eC Ad rfl (Ig dN cM (Qk.rd fh) (Qk.rd cN) (Qk.rd fi) (Qk.rd fj))) ?_
   rintro _ jx ⟨rfl,cm⟩
   have it:=cm.size
   refine qn 3 rfl ?_
   obtain⟨cO,dO,hm⟩:=Qc hm
   obtain⟨iu,bR,hm⟩:=Qc hm
   refine qv rfl (Wr (sz:=1) rfl (Wq hnn86) Tryz.underlying30 (Qe).siz rfl rfl dO) ?_
   have cP:=(cN.gr cm)
   have hf:=Qk.z1 cP bR
   refine qe rfl (Yt (i:=cO) (q:=0) (a':=bQ.1) (vs:=[.int .i64 bQ.1]) (c:=ic) (Qe).siz rfl rfl rfl rfl rfl cP bR (by first|rfl|omega) rfl rfl ⟨rfl,rfl⟩) ?_
   rintro _ hg ⟨fk,dP⟩
   have iv:=dP.size
   refine Qj<|Xi<|Xi<|Xa<|qg 2 rfl<|qv rfl (Xn (k:=.i64) (a:=aa) (b:=1) rfl rfl)<|qm rfl ?_
   refine Qj ?_
   have K_167:Kz [(1,b4),(zy22,gy22)] m hg:=((((ah.kz S).kz aA).gr cm).md dP (Qd (Qn:zy22=0∨(gy22=gy22∧zy22≠0)∨m.heap.size≤gy22)))
   have fl:=((cM.gr cm).md dP (Qd (Xo (b:=b4) ab (Qu f))))
   subst bi
   exact⟨rfl,⟨n7,Qb (aa+1),aO.set cO.toNat bQ.1⟩,Qi,⟨hm,fk,⟨Qn⟩,fl,K_167⟩,Nat.lt_succ_self _⟩
 replace hm:=Hv dH hm
 by_cases dQ:E=2
 · replace hm:=Hw dQ hm
   refine qv rfl (Dk 2 Tryz.underlying114 (Zp).siz rfl rfl dQ (by decide)) ?_
   have cQ:=(V.gr y)
   refine qv rfl (Qf (v:=vy23) Zp rfl cQ rfl)<|qn 3 rfl ?_
   have cR:=(an.gr y)
   obtain⟨nn105,hnn105,hm⟩:=Qc hm
   refine qv rfl (Qdd (c:=ic) Tryz.underlying30 (Qe).siz rfl cR rfl rfl rfl hnn105)<|qm rfl<|Qa<|Qp<|⟨_,_,rfl,Qr rfl (Ql rfl),?_⟩
   refine qm rfl<|qd 3 rfl<|qm rfl<|qv rfl (Eg Tryz.underlying30 rfl)<|qm rfl ?_
   refine Qa<|Xc ?_
   have fm:=((ce.kz af (Vt (Xu (A:=(fun x=>w.heap.size≤x)) z (Xe (A:=(fun x=>w.heap.size≤x)) d)) (Xu (A:=(fun x=>w.heap.size≤x)) B (Xe (A:=(fun x=>w.heap.size≤x)) f)) (Xu (A:=(fun x=>w.heap.size≤x)) C (Xe (A:=(fun x=>w.heap.size≤x)) g)) (Xu (A:=(fun x=>w.heap.size≤x)) D (Xe (A:=(fun x=>w.heap.size≤x)) h)))).trans y)
   have bS:=(al.gr y)
   have bT:=(am.gr y)
   have bU:=(ao.gr y)
   refine Zv (α:=Nat × Int × List Int) ([9]++rg 63 50) (fun⟨aZ,J,W⟩=>[(63,.int .i64 J)]) (fun⟨aZ,J,W⟩ wr=>(Qs (Qbt p0 y1 x2 j E L M O aP nn65 nn105) aZ (J,W)=some r)∧Qk wr zy23 gy23 3 1 vy23 (W.map ic)∧Xb (zy23=0∨(gy23=gy23∧zy23≠0)∨m.heap.size≤gy23)∧Bx wr b4 116 (Qz.cs (Qz.mk p0 x2 (Kq.mk L M W O) y1) vy21 vy22 vy23 vy24)∧Kz [(1,b4),(zy23,gy23)] m wr) (fun⟨aZ,J,W⟩=>aZ) ⟨Qy,0,N⟩ ?_ ?_ ?_
   · exact Qi
   · exact⟨hm,cR,⟨Qn⟩,cQ,Kz.refl _ _⟩
   clear hm;rintro⟨aZ,J,W⟩ fn ⟨hm,av,ac,aw,ai⟩
   have iw:=ai.size
   have hh:=av.lth
   have hi:=aw.lt
   have hb:=Zu hm;clear hm;obtain⟨aZ,rfl,hm⟩:=hb
   generalize aR:Qs (Qbt p0 y1 x2 j E L M O aP nn65 nn105) aZ=bV at hm
   unfold Qbt at hm
   try dsimp only at hm
   refine qs 1 rfl<|qv rfl (Zo (a:=J) (b:=(nn105:Int)) rfl rfl)<|Qa<|Qh<|Zy hm rfl (fun hj hm=>?_) (fun hj hm=>?_)
   · refine Zd<|Xh<|Xh<|Zc<|Xi<|Xa<|qg 2 rfl ?_
     refine qv rfl (Xn (k:=.i64) (a:=E) (b:=1) rfl rfl)<|qm rfl<|Qj ?_
     have K_232:Kz [(1,b4),(zy21,gy21),(zy22,gy22),(zy23,gy23),(zy24,gy24)] aM fn:=((af.gr y).kz ai (Qd (Qn:zy23=0∨(gy23=gy21∧zy21≠0)∨(gy23=gy22∧zy22≠0)∨(gy23=gy23∧zy23≠0)∨(gy23=gy24∧zy24≠0)∨aM.heap.size≤gy23)))
     have fo:=(bS.kz ai (Jq ((Qd Q.o):zy21=0∨zy23=0∨gy21≠gy23) (Xo (b:=b4) n (Qu d))))
     have fp:=(bT.kz ai (Jq ((Qd F.o):zy22=0∨zy23=0∨gy22≠gy23) (Xo (b:=b4) s (Qu f))))
     have fq:=(bU.kz ai (Jq ((Qd I.o):zy24=0∨zy23=0∨gy24≠gy23) (Xo (b:=b4) u (Qu h))))
     subst bg
     exact⟨rfl,⟨n3,Qb (E+1),L,M,W,O⟩,Qi,⟨hm,fo,⟨Qn⟩,fp,⟨Qn⟩,av,⟨Qn⟩,fq,⟨Qn⟩,⟨(Qd P.o)⟩,⟨(Xu (A:=(fun x=>zy21=0∨x≠gy21)) ac (Ki (Xu (A:=(fun x=>zy23=0∨x≠gy23)) n (Qd aY.o) (fun x hx=>(Qd a7.o)))) (fun x hx=>(Qd bI.o)))⟩,⟨(Xu (A:=(fun x=>zy22=0∨x≠gy22)) ac (Ki (Xu (A:=(fun x=>zy23=0∨x≠gy23)) s (Qd aD.o) (fun x hx=>(Qd a7.o)))) (fun x hx=>(Qd bJ.o)))⟩,⟨(Qd G.o)⟩,⟨(Qd H.o)⟩,⟨(Ki (Xu (A:=(fun x=>zy24=0∨x≠gy24)) ac (Ki (Xu (A:=(fun x=>zy23=0∨x≠gy23)) u (Qd aG.o) (fun x hx=>(Qd a7.o)))) (fun x hx=>(Qd bL.o))))⟩,aw,K_232⟩,Nat.lt_succ_self _⟩
   refine qu<|Qh<|Xc<|qs 2 rfl<|qm rfl ?_
   refine qm rfl<|Qa<|Xc ?_
   have fr:=(fm.kz ai (Qd (Xu (A:=(fun x=>w.heap.size≤x)) t (Xe (A:=(fun x=>w.heap.size≤x)) g))))
   refine qj (β:=Bool) (rg 77 8) (fun bE=>[(77,.bool bE)]) (fun bE wr=>(Qbo p0 y1 x2 j E L M O nn65 nn105 J W bV bE=some r)∧Kz [] fn wr) ?_ ?_
   · refine qg 8 rfl<|qv rfl (Qg Kj rfl) ?_
     have fs:=((((bb.kz aQ (Vt (Qu (b:=b1) f) (Qu (b:=b1) g) (Qu (b:=b1) h) (Qu (b:=b1) d))).kz af (Vt (Xo (b:=b1) z (Qu d)) (Xo (b:=b1) B (Qu f)) (Xo (b:=b1) C (Qu g)) (Xo (b:=b1) D (Qu h)))).gr y).kz ai (Qd (Xo (b:=b1) t (Qu g))))
     refine qv rfl (Qf (v:=bv p0.Kind) Zb rfl fs rfl)<|qv rfl (Jz (p:=p0.Kind) (q:=1#8) rfl rfl)<|Zm hm rfl (Qt rfl) (fun hk hm=>?_) (fun hk hm=>?_)
     · refine qm rfl<|qv rfl (Xv (a:=J) (b:=0) rfl rfl)<|qn 2 rfl<|Qj ?_
       exact⟨rfl,(decide (J=0)),Qi,hm,Qw⟩
     refine qn 4 rfl<|Qj ?_
     exact⟨rfl,false,Qi,hm,Qw⟩
   clear hm;rintro bE hl ⟨hm,T⟩
   have ix:=T.size
   unfold Qbo at hm
   refine Zh hm rfl (fun hn hm=>?_) (fun hn hm=>?_)
   · refine qg 4 rfl<|qn 2 rfl ?_
     obtain⟨cS,dR,hm⟩:=Qc hm
     obtain⟨iy,bW,hm⟩:=Qc hm
     refine qv rfl (Wr (sz:=1) rfl (Wq hnn105) Tryz.underlying30 (Qe).siz rfl rfl dR) ?_
     have cT:=(av.kz T)
     have ho:=Qk.z1 cT bW
     refine qe rfl (Yt (i:=cS) (q:=0) (a':=1) (vs:=[.int .i64 1]) (c:=ic) (Qe).siz rfl rfl rfl rfl rfl cT bW (by first|rfl|omega) rfl rfl ⟨rfl,rfl⟩) ?_
     rintro _ hp ⟨ft,dS⟩
     have iz:=dS.size
     refine Qj<|Xi<|Xi<|Xa<|qg 2 rfl<|qv rfl (Xn (k:=.i64) (a:=J) (b:=1) rfl rfl)<|qm rfl ?_
     refine Qj ?_
     have K_194:Kz [(1,b4),(zy23,gy23)] m hp:=((ai.kz T).md dS (Qd (Qn:zy23=0∨(gy23=gy23∧zy23≠0)∨m.heap.size≤gy23)))
     have fu:=((aw.kz T).md dS (Qd (Xo (b:=b4) ac (Qu g))))
     subst aR
     exact⟨rfl,⟨aZ,Qb (J+1),W.set cS.toNat 1⟩,Qi,⟨hm,ft,⟨Qn⟩,fu,K_194⟩,Nat.lt_succ_self _⟩
   have iA:=(fr.kz T)
   refine qj (β:=Bool) (rg 88 12) (fun bF=>[(88,.bool bF)]) (fun bF wr=>(Az p0 y1 x2 j E L M O nn65 nn105 J W bV bF=some r)∧Kz [] hl wr) ?_ ?_
   · refine qg 12 rfl<|qm rfl<|qv rfl (Xv (a:=J) (b:=0) rfl rfl)<|Zm hm rfl (Qt rfl) (fun hq hm=>?_) (fun hq hm=>?_)
     · refine qn 7 rfl ?_
       refine qn 2 rfl<|Qj ?_
       exact⟨rfl,true,Qi,hm,Qw⟩
     refine qv rfl (Qg Kj rfl) ?_
     have fv:=(((((bb.kz aQ (Vt (Qu (b:=b1) f) (Qu (b:=b1) g) (Qu (b:=b1) h) (Qu (b:=b1) d))).kz af (Vt (Xo (b:=b1) z (Qu d)) (Xo (b:=b1) B (Qu f)) (Xo (b:=b1) C (Qu g)) (Xo (b:=b1) D (Qu h)))).gr y).kz ai (Qd (Xo (b:=b1) t (Qu g)))).kz T)
     refine qv rfl (Qf (v:=bv p0.Kind) Zb rfl fv rfl)<|qv rfl (Jz (p:=p0.Kind) (q:=1#8) rfl rfl)<|Zm hm rfl (Qt rfl) (fun hr hm=>?_) (fun hr hm=>?_)
     · refine qm rfl<|qv rfl (Xv (a:=j) (b:=0) rfl rfl)<|qn 3 rfl<|Qj ?_
       exact⟨rfl,(decide (j=0)),Qi,hm,Qw⟩
     refine qn 5 rfl<|Qj ?_
     exact⟨rfl,false,Qi,hm,Qw⟩
   clear hm;rintro bF jy ⟨hm,aB⟩
   have iB:=aB.size
   unfold Az at hm
   refine Zh hm rfl (fun ht hm=>?_) (fun ht hm=>?_)
   · refine qg 4 rfl<|qn 2 rfl ?_
     obtain⟨cU,dT,hm⟩:=Qc hm
     obtain⟨iC,bX,hm⟩:=Qc hm
     refine qv rfl (Wr (sz:=1) rfl (Wq hnn105) Tryz.underlying30 (Qe).siz rfl rfl dT) ?_
     have cV:=((av.kz T).kz aB)
     have hu:=Qk.z1 cV bX
     refine qe rfl (Yt (i:=cU) (q:=0) (a':=0) (vs:=[.int .i64 0]) (c:=ic) (Qe).siz rfl rfl rfl rfl rfl cV bX (by first|rfl|omega) rfl rfl ⟨rfl,rfl⟩) ?_
     rintro _ hw ⟨fw,dU⟩
     have iD:=dU.size
     refine Qj<|Xi<|Xi<|Xa<|qg 2 rfl<|qv rfl (Xn (k:=.i64) (a:=J) (b:=1) rfl rfl)<|qm rfl ?_
     refine Qj ?_
     have K_201:Kz [(1,b4),(zy23,gy23)] m hw:=(((ai.kz T).kz aB).md dU (Qd (Qn:zy23=0∨(gy23=gy23∧zy23≠0)∨m.heap.size≤gy23)))
     have fx:=(((aw.kz T).kz aB).md dU (Qd (Xo (b:=b4) ac (Qu g))))
     subst aR
     exact⟨rfl,⟨aZ,Qb (J+1),W.set cU.toNat 0⟩,Qi,⟨hm,fw,⟨Qn⟩,fx,K_201⟩,Nat.lt_succ_self _⟩
   refine qs 3 rfl<|qm rfl<|qv rfl (Xv (a:=j) (b:=0) rfl rfl)<|qm rfl<|Qa<|Zq hm rfl (fun hy hm=>?_) (fun hy hm=>?_)
   · refine qg 7 rfl<|qn 4 rfl ?_
     have cW:=((aw.kz T).kz aB)
     have fy:=(((bS.kz ai (Jq ((Qd Q.o):zy21=0∨zy23=0∨gy21≠gy23) (Xo (b:=b4) n (Qu d)))).kz T).kz aB)
     have fz:=(((bT.kz ai (Jq ((Qd F.o):zy22=0∨zy23=0∨gy22≠gy23) (Xo (b:=b4) s (Qu f)))).kz T).kz aB)
     have cX:=((av.kz T).kz aB)
     have fA:=(((bU.kz ai (Jq ((Qd I.o):zy24=0∨zy23=0∨gy24≠gy23) (Xo (b:=b4) u (Qu h)))).kz T).kz aB)
     obtain⟨bY,dV,hm⟩:=Qc hm
     refine qe rfl (eC Ac rfl (Ij dV cW (Qk.rd fy) (Qk.rd fz) (Qk.rd cX) (Qk.rd fA))) ?_
     rintro _ jz ⟨rfl,cn⟩
     have iE:=cn.size
     obtain⟨cY,dW,hm⟩:=Qc hm
     obtain⟨iG,bZ,hm⟩:=Qc hm
     refine qv rfl (Wr (sz:=1) rfl (Wq hnn105) Tryz.underlying30 (Qe).siz rfl rfl dW) ?_
     have cZ:=(cX.gr cn)
     have hz:=Qk.z1 cZ bZ
     refine qe rfl (Yt (i:=cY) (q:=0) (a':=bY) (vs:=[.int .i64 bY]) (c:=ic) (Qe).siz rfl rfl rfl rfl rfl cZ bZ (by first|rfl|omega) rfl rfl ⟨rfl,rfl⟩) ?_
     rintro _ hA ⟨fB,dX⟩
     have iH:=dX.size
     refine Qj<|Xi<|Xi<|Xa<|qg 2 rfl<|qv rfl (Xn (k:=.i64) (a:=J) (b:=1) rfl rfl)<|qm rfl ?_
     refine Qj ?_
     have K_212:Kz [(1,b4),(zy23,gy23)] m hA:=((((ai.kz T).kz aB).gr cn).md dX (Qd (Qn:zy23=0∨(gy23=gy23∧zy23≠0)∨m.heap.size≤gy23)))
     have fC:=((cW.gr cn).md dX (Qd (Xo (b:=b4) ac (Qu g))))
     subst aR
     exact⟨rfl,⟨aZ,Qb (J+1),W.set cY.toNat bY⟩,Qi,⟨hm,fB,⟨Qn⟩,fC,K_212⟩,Nat.lt_succ_self _⟩
   refine qg 12 rfl<|qn 6 rfl ?_
   have c0:=((aw.kz T).kz aB)
   have fD:=(((bS.kz ai (Jq ((Qd Q.o):zy21=0∨zy23=0∨gy21≠gy23) (Xo (b:=b4) n (Qu d)))).kz T).kz aB)
   have fE:=(((bT.kz ai (Jq ((Qd F.o):zy22=0∨zy23=0∨gy22≠gy23) (Xo (b:=b4) s (Qu f)))).kz T).kz aB)
   have da:=((av.kz T).kz aB)
   have fF:=(((bU.kz ai (Jq ((Qd I.o):zy24=0∨zy23=0∨gy24≠gy23) (Xo (b:=b4) u (Qu h)))).kz T).kz aB)
   obtain⟨b0,dY,hm⟩:=Qc hm
   refine qe rfl (eC Ad rfl (Ig dY c0 (Qk.rd fD) (Qk.rd fE) (Qk.rd da) (Qk.rd fF))) ?_
   rintro _ jA ⟨rfl,co⟩
   have iI:=co.size
   refine qn 3 rfl ?_
   obtain⟨db,dZ,hm⟩:=Qc hm
   obtain⟨iJ,b2,hm⟩:=Qc hm
   refine qv rfl (Wr (sz:=1) rfl (Wq hnn105) Tryz.underlying30 (Qe).siz rfl rfl dZ) ?_
   have dc:=(da.gr co)
   have hB:=Qk.z1 dc b2
   refine qe rfl (Yt (i:=db) (q:=0) (a':=b0.1) (vs:=[.int .i64 b0.1]) (c:=ic) (Qe).siz rfl rfl rfl rfl rfl dc b2 (by first|rfl|omega) rfl rfl ⟨rfl,rfl⟩) ?_
   rintro _ hC ⟨fG,d0⟩
   have iK:=d0.size
   refine Qj<|Xi<|Xi<|Xa<|qg 2 rfl<|qv rfl (Xn (k:=.i64) (a:=J) (b:=1) rfl rfl)<|qm rfl ?_
   refine Qj ?_
   have K_223:Kz [(1,b4),(zy23,gy23)] m hC:=((((ai.kz T).kz aB).gr co).md d0 (Qd (Qn:zy23=0∨(gy23=gy23∧zy23≠0)∨m.heap.size≤gy23)))
   have fH:=((c0.gr co).md d0 (Qd (Xo (b:=b4) ac (Qu g))))
   subst aR
   exact⟨rfl,⟨aZ,Qb (J+1),W.set db.toNat b0.1⟩,Qi,⟨hm,fG,⟨Qn⟩,fH,K_223⟩,Nat.lt_succ_self _⟩
 replace hm:=Hv dQ hm
 by_cases d1:E=3
 · replace hm:=Hw d1 hm
   refine qv rfl (Dk 3 Tryz.underlying114 (Zp).siz rfl rfl d1 (by decide)) ?_
   have dd:=(V.gr y)
   refine qv rfl (Qf (v:=vy24) Zp rfl dd rfl)<|qn 3 rfl ?_
   have de:=(ao.gr y)
   obtain⟨nn124,hnn124,hm⟩:=Qc hm
   refine qv rfl (Qdd (c:=ic) Tryz.underlying30 (Qe).siz rfl de rfl rfl rfl hnn124)<|qm rfl<|Qa<|Qp<|⟨_,_,rfl,Qr rfl (Ql rfl),?_⟩
   refine qm rfl<|qd 3 rfl<|qm rfl<|qv rfl (Eg Tryz.underlying30 rfl)<|qm rfl ?_
   refine Qa<|Xc ?_
   have fI:=((ce.kz af (Vt (Xu (A:=(fun x=>w.heap.size≤x)) z (Xe (A:=(fun x=>w.heap.size≤x)) d)) (Xu (A:=(fun x=>w.heap.size≤x)) B (Xe (A:=(fun x=>w.heap.size≤x)) f)) (Xu (A:=(fun x=>w.heap.size≤x)) C (Xe (A:=(fun x=>w.heap.size≤x)) g)) (Xu (A:=(fun x=>w.heap.size≤x)) D (Xe (A:=(fun x=>w.heap.size≤x)) h)))).trans y)
   have b3:=(al.gr y)
   have b5:=(am.gr y)
   have b6:=(an.gr y)
   refine Zv (α:=Nat × Int × List Int) ([9]++rg 63 50) (fun⟨a4,K,X⟩=>[(63,.int .i64 K)]) (fun⟨a4,K,X⟩ wr=>(Qs (Qbu p0 y1 x2 j E L M N aP nn65 nn124) a4 (K,X)=some r)∧Qk wr zy24 gy24 3 1 vy24 (X.map ic)∧Xb (zy24=0∨(gy24=gy24∧zy24≠0)∨m.heap.size≤gy24)∧Bx wr b4 116 (Qz.cs (Qz.mk p0 x2 (Kq.mk L M N X) y1) vy21 vy22 vy23 vy24)∧Kz [(1,b4),(zy24,gy24)] m wr) (fun⟨a4,K,X⟩=>a4) ⟨Qy,0,O⟩ ?_ ?_ ?_
   · exact Qi
   · exact⟨hm,de,⟨Qn⟩,dd,Kz.refl _ _⟩
   clear hm;rintro⟨a4,K,X⟩ fJ ⟨hm,ax,ad,ay,aj⟩
   have iL:=aj.size
   have hD:=ax.lth
   have hE:=ay.lt
   have hb:=Zu hm;clear hm;obtain⟨a4,rfl,hm⟩:=hb
   generalize aS:Qs (Qbu p0 y1 x2 j E L M N aP nn65 nn124) a4=b7 at hm
   unfold Qbu at hm
   try dsimp only at hm
   refine qs 1 rfl<|qv rfl (Zo (a:=K) (b:=(nn124:Int)) rfl rfl)<|Qa<|Qh<|Zy hm rfl (fun hF hm=>?_) (fun hF hm=>?_)
   · refine Zd<|Xh<|Xh<|Zc<|Xi<|Xa<|qg 2 rfl ?_
     refine qv rfl (Xn (k:=.i64) (a:=E) (b:=1) rfl rfl)<|qm rfl<|Qj ?_
     have K_288:Kz [(1,b4),(zy21,gy21),(zy22,gy22),(zy23,gy23),(zy24,gy24)] aM fJ:=((af.gr y).kz aj (Qd (Qn:zy24=0∨(gy24=gy21∧zy21≠0)∨(gy24=gy22∧zy22≠0)∨(gy24=gy23∧zy23≠0)∨(gy24=gy24∧zy24≠0)∨aM.heap.size≤gy24)))
     have fK:=(b3.kz aj (Jq ((Qd G.o):zy21=0∨zy24=0∨gy21≠gy24) (Xo (b:=b4) n (Qu d))))
     have fL:=(b5.kz aj (Jq ((Qd H.o):zy22=0∨zy24=0∨gy22≠gy24) (Xo (b:=b4) s (Qu f))))
     have fM:=(b6.kz aj (Jq ((Qd I.o):zy23=0∨zy24=0∨gy23≠gy24) (Xo (b:=b4) t (Qu g))))
     subst bg
     exact⟨rfl,⟨n3,Qb (E+1),L,M,N,X⟩,Qi,⟨hm,fK,⟨Qn⟩,fL,⟨Qn⟩,fM,⟨Qn⟩,ax,⟨Qn⟩,⟨(Qd P.o)⟩,⟨(Qd Q.o)⟩,⟨(Qd F.o)⟩,⟨(Xu (A:=(fun x=>zy21=0∨x≠gy21)) ad (Ki (Xu (A:=(fun x=>zy24=0∨x≠gy24)) n (Qd aE.o) (fun x hx=>(Qd a8.o)))) (fun x hx=>(Qd bI.o)))⟩,⟨(Xu (A:=(fun x=>zy22=0∨x≠gy22)) ad (Ki (Xu (A:=(fun x=>zy24=0∨x≠gy24)) s (Qd aF.o) (fun x hx=>(Qd a8.o)))) (fun x hx=>(Qd bJ.o)))⟩,⟨(Xu (A:=(fun x=>zy23=0∨x≠gy23)) ad (Ki (Xu (A:=(fun x=>zy24=0∨x≠gy24)) t (Qd aG.o) (fun x hx=>(Qd a8.o)))) (fun x hx=>(Qd bK.o)))⟩,ay,K_288⟩,Nat.lt_succ_self _⟩
   refine qu<|Qh<|Xc<|qs 2 rfl<|qm rfl ?_
   refine qm rfl<|Qa<|Xc ?_
   have fN:=(fI.kz aj (Qd (Xu (A:=(fun x=>w.heap.size≤x)) u (Xe (A:=(fun x=>w.heap.size≤x)) h))))
   refine qj (β:=Bool) (rg 77 8) (fun bG=>[(77,.bool bG)]) (fun bG wr=>(Qbp p0 y1 x2 j E L M N nn65 nn124 K X b7 bG=some r)∧Kz [] fJ wr) ?_ ?_
   · refine qg 8 rfl<|qv rfl (Qg Kj rfl) ?_
     have fO:=((((bb.kz aQ (Vt (Qu (b:=b1) f) (Qu (b:=b1) g) (Qu (b:=b1) h) (Qu (b:=b1) d))).kz af (Vt (Xo (b:=b1) z (Qu d)) (Xo (b:=b1) B (Qu f)) (Xo (b:=b1) C (Qu g)) (Xo (b:=b1) D (Qu h)))).gr y).kz aj (Qd (Xo (b:=b1) u (Qu h))))
     refine qv rfl (Qf (v:=bv p0.Kind) Zb rfl fO rfl)<|qv rfl (Jz (p:=p0.Kind) (q:=1#8) rfl rfl)<|Zm hm rfl (Qt rfl) (fun hG hm=>?_) (fun hG hm=>?_)
     · refine qm rfl<|qv rfl (Xv (a:=K) (b:=0) rfl rfl)<|qn 2 rfl<|Qj ?_
       exact⟨rfl,(decide (K=0)),Qi,hm,Qw⟩
     refine qn 4 rfl<|Qj ?_
     exact⟨rfl,false,Qi,hm,Qw⟩
   clear hm;rintro bG hH ⟨hm,U⟩
   have iM:=U.size
   unfold Qbp at hm
   refine Zh hm rfl (fun hI hm=>?_) (fun hI hm=>?_)
   · refine qg 4 rfl<|qn 2 rfl ?_
     obtain⟨df,d2,hm⟩:=Qc hm
     obtain⟨iN,b8,hm⟩:=Qc hm
     refine qv rfl (Wr (sz:=1) rfl (Wq hnn124) Tryz.underlying30 (Qe).siz rfl rfl d2) ?_
     have dg:=(ax.kz U)
     have hJ:=Qk.z1 dg b8
     refine qe rfl (Yt (i:=df) (q:=0) (a':=1) (vs:=[.int .i64 1]) (c:=ic) (Qe).siz rfl rfl rfl rfl rfl dg b8 (by first|rfl|omega) rfl rfl ⟨rfl,rfl⟩) ?_
     rintro _ hK ⟨fP,d3⟩
     have iO:=d3.size
     refine Qj<|Xi<|Xi<|Xa<|qg 2 rfl<|qv rfl (Xn (k:=.i64) (a:=K) (b:=1) rfl rfl)<|qm rfl ?_
     refine Qj ?_
     have K_250:Kz [(1,b4),(zy24,gy24)] m hK:=((aj.kz U).md d3 (Qd (Qn:zy24=0∨(gy24=gy24∧zy24≠0)∨m.heap.size≤gy24)))
     have fQ:=((ay.kz U).md d3 (Qd (Xo (b:=b4) ad (Qu h))))
     subst aS
     exact⟨rfl,⟨a4,Qb (K+1),X.set df.toNat 1⟩,Qi,⟨hm,fP,⟨Qn⟩,fQ,K_250⟩,Nat.lt_succ_self _⟩
   have iP:=(fN.kz U)
   refine qj (β:=Bool) (rg 88 12) (fun bH=>[(88,.bool bH)]) (fun bH wr=>(Ia p0 y1 x2 j E L M N nn65 nn124 K X b7 bH=some r)∧Kz [] hH wr) ?_ ?_
   · refine qg 12 rfl<|qm rfl<|qv rfl (Xv (a:=K) (b:=0) rfl rfl)<|Zm hm rfl (Qt rfl) (fun hL hm=>?_) (fun hL hm=>?_)
     · refine qn 7 rfl ?_
       refine qn 2 rfl<|Qj ?_
       exact⟨rfl,true,Qi,hm,Qw⟩
     refine qv rfl (Qg Kj rfl) ?_
     have fR:=(((((bb.kz aQ (Vt (Qu (b:=b1) f) (Qu (b:=b1) g) (Qu (b:=b1) h) (Qu (b:=b1) d))).kz af (Vt (Xo (b:=b1) z (Qu d)) (Xo (b:=b1) B (Qu f)) (Xo (b:=b1) C (Qu g)) (Xo (b:=b1) D (Qu h)))).gr y).kz aj (Qd (Xo (b:=b1) u (Qu h)))).kz U)
     refine qv rfl (Qf (v:=bv p0.Kind) Zb rfl fR rfl)<|qv rfl (Jz (p:=p0.Kind) (q:=1#8) rfl rfl)<|Zm hm rfl (Qt rfl) (fun hM hm=>?_) (fun hM hm=>?_)
     · refine qm rfl<|qv rfl (Xv (a:=j) (b:=0) rfl rfl)<|qn 3 rfl<|Qj ?_
       exact⟨rfl,(decide (j=0)),Qi,hm,Qw⟩
     refine qn 5 rfl<|Qj ?_
     exact⟨rfl,false,Qi,hm,Qw⟩
   clear hm;rintro bH jB ⟨hm,aC⟩
   have iQ:=aC.size
   unfold Ia at hm
   refine Zh hm rfl (fun hN hm=>?_) (fun hN hm=>?_)
   · refine qg 4 rfl<|qn 2 rfl ?_
     obtain⟨di,d4,hm⟩:=Qc hm
     obtain⟨iR,b9,hm⟩:=Qc hm
     refine qv rfl (Wr (sz:=1) rfl (Wq hnn124) Tryz.underlying30 (Qe).siz rfl rfl d4) ?_
     have dj:=((ax.kz U).kz aC)
     have hO:=Qk.z1 dj b9
     refine qe rfl (Yt (i:=di) (q:=0) (a':=0) (vs:=[.int .i64 0]) (c:=ic) (Qe).siz rfl rfl rfl rfl rfl dj b9 (by first|rfl|omega) rfl rfl ⟨rfl,rfl⟩) ?_
     rintro _ hP ⟨fS,d5⟩
     have iS:=d5.size
     refine Qj<|Xi<|Xi<|Xa<|qg 2 rfl<|qv rfl (Xn (k:=.i64) (a:=K) (b:=1) rfl rfl)<|qm rfl ?_
     refine Qj ?_
     have K_257:Kz [(1,b4),(zy24,gy24)] m hP:=(((aj.kz U).kz aC).md d5 (Qd (Qn:zy24=0∨(gy24=gy24∧zy24≠0)∨m.heap.size≤gy24)))
     have fT:=(((ay.kz U).kz aC).md d5 (Qd (Xo (b:=b4) ad (Qu h))))
     subst aS
     exact⟨rfl,⟨a4,Qb (K+1),X.set di.toNat 0⟩,Qi,⟨hm,fS,⟨Qn⟩,fT,K_257⟩,Nat.lt_succ_self _⟩
   refine qs 3 rfl<|qm rfl<|qv rfl (Xv (a:=j) (b:=0) rfl rfl)<|qm rfl<|Qa<|Zq hm rfl (fun hQ hm=>?_) (fun hQ hm=>?_)
   · refine qg 7 rfl<|qn 4 rfl ?_
     have dk:=((ay.kz U).kz aC)
     have fU:=(((b3.kz aj (Jq ((Qd G.o):zy21=0∨zy24=0∨gy21≠gy24) (Xo (b:=b4) n (Qu d)))).kz U).kz aC)
     have fV:=(((b5.kz aj (Jq ((Qd H.o):zy22=0∨zy24=0∨gy22≠gy24) (Xo (b:=b4) s (Qu f)))).kz U).kz aC)
     have fW:=(((b6.kz aj (Jq ((Qd I.o):zy23=0∨zy24=0∨gy23≠gy24) (Xo (b:=b4) t (Qu g)))).kz U).kz aC)
     have dl:=((ax.kz U).kz aC)
     obtain⟨ca,d6,hm⟩:=Qc hm
     refine qe rfl (eC Ac rfl (Ij d6 dk (Qk.rd fU) (Qk.rd fV) (Qk.rd fW) (Qk.rd dl))) ?_
     rintro _ jC ⟨rfl,cp⟩
     have iU:=cp.size
     obtain⟨dp,d7,hm⟩:=Qc hm
     obtain⟨iV,cb,hm⟩:=Qc hm
     refine qv rfl (Wr (sz:=1) rfl (Wq hnn124) Tryz.underlying30 (Qe).siz rfl rfl d7) ?_
     have dq:=(dl.gr cp)
     have hR:=Qk.z1 dq cb
     refine qe rfl (Yt (i:=dp) (q:=0) (a':=ca) (vs:=[.int .i64 ca]) (c:=ic) (Qe).siz rfl rfl rfl rfl rfl dq cb (by first|rfl|omega) rfl rfl ⟨rfl,rfl⟩) ?_
     rintro _ hT ⟨fX,d8⟩
     have iW:=d8.size
     refine Qj<|Xi<|Xi<|Xa<|qg 2 rfl<|qv rfl (Xn (k:=.i64) (a:=K) (b:=1) rfl rfl)<|qm rfl ?_
     refine Qj ?_
     have K_268:Kz [(1,b4),(zy24,gy24)] m hT:=((((aj.kz U).kz aC).gr cp).md d8 (Qd (Qn:zy24=0∨(gy24=gy24∧zy24≠0)∨m.heap.size≤gy24)))
     have fY:=((dk.gr cp).md d8 (Qd (Xo (b:=b4) ad (Qu h))))
     subst aS
     exact⟨rfl,⟨a4,Qb (K+1),X.set dp.toNat ca⟩,Qi,⟨hm,fX,⟨Qn⟩,fY,K_268⟩,Nat.lt_succ_self _⟩
   refine qg 12 rfl<|qn 6 rfl ?_
   have dr:=((ay.kz U).kz aC)
   have fZ:=(((b3.kz aj (Jq ((Qd G.o):zy21=0∨zy24=0∨gy21≠gy24) (Xo (b:=b4) n (Qu d)))).kz U).kz aC)
   have f0:=(((b5.kz aj (Jq ((Qd H.o):zy22=0∨zy24=0∨gy22≠gy24) (Xo (b:=b4) s (Qu f)))).kz U).kz aC)
   have f1:=(((b6.kz aj (Jq ((Qd I.o):zy23=0∨zy24=0∨gy23≠gy24) (Xo (b:=b4) t (Qu g)))).kz U).kz aC)
   have ds:=((ax.kz U).kz aC)
   obtain⟨cc,d9,hm⟩:=Qc hm
   refine qe rfl (eC Ad rfl (Ig d9 dr (Qk.rd fZ) (Qk.rd f0) (Qk.rd f1) (Qk.rd ds))) ?_
   rintro _ jD ⟨rfl,cq⟩
   have iX:=cq.size
   refine qn 3 rfl ?_
   obtain⟨dt,ea,hm⟩:=Qc hm
   obtain⟨iY,cd,hm⟩:=Qc hm
   refine qv rfl (Wr (sz:=1) rfl (Wq hnn124) Tryz.underlying30 (Qe).siz rfl rfl ea) ?_
   have du:=(ds.gr cq)
   have hU:=Qk.z1 du cd
   refine qe rfl (Yt (i:=dt) (q:=0) (a':=cc.1) (vs:=[.int .i64 cc.1]) (c:=ic) (Qe).siz rfl rfl rfl rfl rfl du cd (by first|rfl|omega) rfl rfl ⟨rfl,rfl⟩) ?_
   rintro _ hV ⟨f2,eb⟩
   have iZ:=eb.size
   refine Qj<|Xi<|Xi<|Xa<|qg 2 rfl<|qv rfl (Xn (k:=.i64) (a:=K) (b:=1) rfl rfl)<|qm rfl ?_
   refine Qj ?_
   have K_279:Kz [(1,b4),(zy24,gy24)] m hV:=((((aj.kz U).kz aC).gr cq).md eb (Qd (Qn:zy24=0∨(gy24=gy24∧zy24≠0)∨m.heap.size≤gy24)))
   have f3:=((dr.gr cq).md eb (Qd (Xo (b:=b4) ad (Qu h))))
   subst aS
   exact⟨rfl,⟨a4,Qb (K+1),X.set dt.toNat cc.1⟩,Qi,⟨hm,f2,⟨Qn⟩,f3,K_279⟩,Nat.lt_succ_self _⟩
 replace hm:=Hv d1 hm
 cases hm
end Go.Proofs.YtopkalcefepilaaGreat.Mx
