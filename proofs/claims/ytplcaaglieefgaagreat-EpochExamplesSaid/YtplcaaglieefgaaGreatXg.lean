/- Walks that follow mirrors: Xg. Printed by mx.py. -/
import Derived.Test.YtplcaaglieefgaaGreatXf
import Derived.Test.YtplcaaglieefgaaGreatZd
set_option linter.unusedVariables false
set_option linter.unusedSimpArgs false
set_option maxRecDepth 100000
set_option maxHeartbeats 2000000
namespace Go.Proofs.YtplcaaglieefgaaGreat.Mx
open Go Go.RowKit Go.Sx
theorem Qrv:Yt Tryz.prog 2 193 [.i .i64,.i .i64]:=Ua Tryz.underlying193 (by kernel_rfl) Pc (show Gm _ 1 _ _ _ from(Hu (ks1:=[.i .i64]) (ks2:=[.i .i64]) rfl (by simp) (Ay.up (by decide)) (Hu (ks1:=[.i .i64]) (ks2:=[]) rfl (by simp) (Ay.up (by decide)) (Ub _))))
theorem Qrw:Yt Tryz.prog 3 195 [.i .i64,.i .i64,.i .u8,.i .u8,.i .u8,.i .u8,.i .u8,.i .u8,.i .u8,.i .u8,.i .u8,.i .u8,.i .u8,.i .u8,.i .u8,.i .u8,.i .u8,.i .u8]:=Ua Tryz.underlying195 (by kernel_rfl) Wl (show Gm _ 2 _ _ _ from(Hu (ks1:=[.i .i64,.i .i64]) (ks2:=[.i .u8,.i .u8,.i .u8,.i .u8,.i .u8,.i .u8,.i .u8,.i .u8,.i .u8,.i .u8,.i .u8,.i .u8,.i .u8,.i .u8,.i .u8,.i .u8]) rfl (by simp) (Qrv.up (by decide)) (Hu (ks1:=[.i .u8,.i .u8,.i .u8,.i .u8,.i .u8,.i .u8,.i .u8,.i .u8,.i .u8,.i .u8,.i .u8,.i .u8,.i .u8,.i .u8,.i .u8,.i .u8]) (ks2:=[]) rfl (by simp) (Qgf.up (by decide)) (Ub _))))
theorem Qs4:Ti Tryz.prog 195 [.i .i64,.i .i64,.i .u8,.i .u8,.i .u8,.i .u8,.i .u8,.i .u8,.i .u8,.i .u8,.i .u8,.i .u8,.i .u8,.i .u8,.i .u8,.i .u8,.i .u8,.i .u8]:=⟨by kernel_rfl,Wl,3,by decide,Qrw⟩
theorem Qs0:Yt Tryz.prog 2 65 [.i .u64,.i .u64]:=Ua Tryz.underlying65 (by kernel_rfl) Vq (show Gm _ 1 _ _ _ from(Hu (ks1:=[.i .u64]) (ks2:=[.i .u64]) rfl (by simp) (Ax.up (by decide)) (Hu (ks1:=[.i .u64]) (ks2:=[]) rfl (by simp) (Ax.up (by decide)) (Ub _))))
theorem Qs6:Ti Tryz.prog 65 [.i .u64,.i .u64]:=⟨by kernel_rfl,Vq,2,by decide,Qs0⟩
theorem Qxe {p0 r}(hm:Qn0 p0=some r){w:World}:
 Calls Tryz.prog 160 [.agg (Zi.cs p0).toArray].toArray w fun e w'=>∃ v,e=.returned v∧(v=.bool r∧Gr w w'):=by
 unfold Qn0 at hm
 refine Xu 84 Tryz.func160 rfl rfl rfl<|qs 2 rfl<|qe rfl (Xp (cs:=Zi.cs p0) rfl rfl) ?_
 rintro _ w1 ⟨b1,rfl,m,c,G1⟩
 have z1:=G1.size
 have n:=c.lt
 refine qm rfl<|Qa<|Qj ?_
 have X3:=((Gr.refl w).trans G1)
 refine qj (β:=Bool) (rg 3 31) (fun a1=>[(33,.bool a1)]) (fun a1 wr=>(Cb p0 a1=some r)∧Kz [] w1 wr) ?_ ?_
 · refine qg 31 rfl<|qv rfl (Qg Hw rfl)<|qv rfl (Ql (v:=.int .i64 p0.Word) Xm rfl c rfl)<|qv rfl (Jb (a:=p0.Word) (b:=1) rfl rfl)<|Zm hm rfl (Qw rfl) (fun c9 hm=>?_) (fun c9 hm=>?_)
   · refine qn 7 rfl ?_
     refine qn 7 rfl ?_
     refine qn 7 rfl ?_
     refine qn 6 rfl<|Qi ?_
     exact⟨rfl,true,Qh,hm,Xi⟩
   refine qv rfl (Qg Hw rfl)<|qv rfl (Ql (v:=.int .i64 p0.Word) Xm rfl c rfl)<|qv rfl (Ve (a:=p0.Word) (b:=1000) rfl rfl)<|qm rfl<|Zm hm rfl (Qw rfl) (fun f hm=>?_) (fun f hm=>?_)
   · refine qn 7 rfl ?_
     refine qn 7 rfl ?_
     refine qn 7 rfl ?_
     refine qm rfl<|Qi ?_
     exact⟨rfl,true,Qh,hm,Xi⟩
   refine qv rfl (Qg Pd rfl)<|qv rfl (Ql (v:=.int .i64 p0.Epoch) Xm rfl c rfl)<|qv rfl (Qg Hw rfl)<|qv rfl (Ql (v:=.int .i64 p0.Word) Xm rfl c rfl)<|qv rfl (Jb (a:=p0.Epoch) (b:=p0.Word) rfl rfl)<|qm rfl<|Zm hm rfl (Qw rfl) (fun g hm=>?_) (fun g hm=>?_)
   · refine qn 7 rfl ?_
     refine qn 7 rfl ?_
     refine qm rfl<|Qi ?_
     exact⟨rfl,true,Qh,hm,Xi⟩
   refine qv rfl (Qg Pd rfl)<|qv rfl (Ql (v:=.int .i64 p0.Epoch) Xm rfl c rfl)<|qv rfl (Qg Hw rfl)<|qv rfl (Ql (v:=.int .i64 p0.Word) Xm rfl c rfl)<|qv rfl (Wj (k:=.i64) (a:=1000) (b:=p0.Word) rfl rfl)<|qv rfl (Ve (a:=p0.Epoch) (b:=Qp (1000*p0.Word)) rfl rfl)<|qm rfl ?_
   refine Zm hm rfl (Qw rfl) (fun h hm=>?_) (fun h hm=>?_)
   · refine qn 7 rfl ?_
     refine Qi ?_
     exact⟨rfl,true,Qh,hm,Xi⟩
   refine qv rfl (Qg Pd rfl)<|qv rfl (Ql (v:=.int .i64 p0.Epoch) Xm rfl c rfl)<|qv rfl (Qg Hw rfl)<|qv rfl (Ql (v:=.int .i64 p0.Word) Xm rfl c rfl) ?_
   obtain⟨x3,i,hm⟩:=Qd hm
   refine qv rfl (Db (a:=p0.Epoch) (b:=p0.Word) rfl rfl i)<|qv rfl (Zp (a:=x3) (b:=0) rfl rfl)<|qm rfl<|Qi ?_
   exact⟨rfl,(decide (x3≠0)),Qh,hm,Xi⟩
 clear hm;rintro a1 w2 ⟨hm,K2⟩
 have z4:=K2.size
 unfold Cb at hm
 refine Zw hm rfl (fun c1 hm=>?_) (fun c1 hm=>?_)
 · refine qs 1 rfl<|qm rfl<|qb ?_
   have X5:=(X3.kz K2)
   cases hm
   exact⟨_,_,rfl,Xj rfl (Qn rfl),rfl,X5⟩
 refine qu<|Qj ?_
 have X6:=(X3.kz K2)
 refine qj (β:=Bool) (rg 34 30) (fun a2=>[(63,.bool a2)]) (fun a2 wr=>(Fh p0 a2=some r)∧Kz [] w2 wr) ?_ ?_
 · refine qg 30 rfl<|qv rfl (Qg Bi rfl) ?_
   have d:=(c.kz K2)
   refine qv rfl (Ql (v:=.int .i64 p0.Early) Xm rfl d rfl)<|qv rfl (Jb (a:=p0.Early) (b:=0) rfl rfl)<|Zm hm rfl (Qw rfl) (fun c4 hm=>?_) (fun c4 hm=>?_)
   · refine qn 7 rfl ?_
     refine qn 7 rfl ?_
     refine qn 7 rfl ?_
     refine qn 5 rfl<|Qi ?_
     exact⟨rfl,true,Qh,hm,Xi⟩
   refine qv rfl (Qg De rfl)<|qv rfl (Ql (v:=.int .i64 p0.Drift) Xm rfl d rfl)<|qv rfl (Jb (a:=p0.Drift) (b:=0) rfl rfl)<|qm rfl<|Zm hm rfl (Qw rfl) (fun c5 hm=>?_) (fun c5 hm=>?_)
   · refine qn 7 rfl ?_
     refine qn 7 rfl ?_
     refine qn 7 rfl ?_
     refine Qi ?_
     exact⟨rfl,true,Qh,hm,Xi⟩
   refine qv rfl (Qg Lc rfl)<|qv rfl (Ql (v:=.int .i64 p0.Delay) Xm rfl d rfl)<|qv rfl (Jb (a:=p0.Delay) (b:=0) rfl rfl)<|qm rfl<|Zm hm rfl (Qw rfl) (fun c6 hm=>?_) (fun c6 hm=>?_)
   · refine qn 7 rfl ?_
     refine qn 7 rfl ?_
     refine qn 2 rfl<|Qi ?_
     exact⟨rfl,true,Qh,hm,Xi⟩
   refine qv rfl (Qg Bi rfl)<|qv rfl (Ql (v:=.int .i64 p0.Early) Xm rfl d rfl)<|qv rfl (Qg Pd rfl)<|qv rfl (Ql (v:=.int .i64 p0.Epoch) Xm rfl d rfl)<|qv rfl (Ve (a:=p0.Early) (b:=p0.Epoch) rfl rfl)<|qm rfl<|Zm hm rfl (Qw rfl) (fun c7 hm=>?_) (fun c7 hm=>?_)
   · refine qn 7 rfl ?_
     refine qn 2 rfl<|Qi ?_
     exact⟨rfl,true,Qh,hm,Xi⟩
   refine qv rfl (Qg De rfl)<|qv rfl (Ql (v:=.int .i64 p0.Drift) Xm rfl d rfl)<|qv rfl (Ve (a:=p0.Drift) (b:=3000) rfl rfl)<|qm rfl<|Zm hm rfl (Qw rfl) (fun c8 hm=>?_) (fun c8 hm=>?_)
   · refine qn 4 rfl<|Qi ?_
     exact⟨rfl,true,Qh,hm,Xi⟩
   refine qv rfl (Qg Lc rfl)<|qv rfl (Ql (v:=.int .i64 p0.Delay) Xm rfl d rfl)<|qv rfl (Ve (a:=p0.Delay) (b:=3000) rfl rfl)<|qm rfl<|Qi ?_
   exact⟨rfl,(decide ((3000:Int)<p0.Delay)),Qh,hm,Xi⟩
 clear hm;rintro a2 w3 ⟨hm,K3⟩
 have z7:=K3.size
 unfold Fh at hm
 refine Zw hm rfl (fun c2 hm=>?_) (fun c2 hm=>?_)
 · refine qs 1 rfl<|qm rfl<|qb ?_
   have X8:=(X6.kz K3)
   cases hm
   exact⟨_,_,rfl,Xj rfl (Qn rfl),rfl,X8⟩
 refine qu<|qs 21 rfl<|qv rfl (Qg De rfl) ?_
 have B9:=((c.kz K2).kz K3)
 refine qv rfl (Ql (v:=.int .i64 p0.Drift) Xm rfl B9 rfl)<|qv rfl (Wj (k:=.i64) (a:=2) (b:=p0.Drift) rfl rfl)<|qv rfl (Qg Lc rfl)<|qv rfl (Ql (v:=.int .i64 p0.Delay) Xm rfl B9 rfl)<|qv rfl (Zy (k:=.i64) (a:=Qp (2*p0.Drift)) (b:=p0.Delay) rfl rfl)<|qv rfl (Qg Hw rfl)<|qv rfl (Ql (v:=.int .i64 p0.Word) Xm rfl B9 rfl) ?_
 refine qv rfl (Wj (k:=.i64) (a:=3) (b:=p0.Word) rfl rfl)<|qv rfl (Jb (a:=Qp ((Qp (2*p0.Drift))+p0.Delay)) (b:=Qp (3*p0.Word)) rfl rfl)<|Kr hm rfl (Qw rfl) (fun c3 hm=>?_) (fun c3 hm=>?_)
 · refine qn 7 rfl ?_
   refine qn 3 rfl<|Qa<|Qs ?_
   have j:=(X6.kz K3)
   cases hm
   exact⟨_,_,rfl,Xj rfl (Qn rfl),rfl,j⟩
 refine qv rfl (Qg Bi rfl)<|qv rfl (Ql (v:=.int .i64 p0.Early) Xm rfl B9 rfl)<|qv rfl (Qg Lc rfl)<|qv rfl (Ql (v:=.int .i64 p0.Delay) Xm rfl B9 rfl)<|qv rfl (Zy (k:=.i64) (a:=p0.Early) (b:=p0.Delay) rfl rfl)<|qv rfl (Qg Pd rfl)<|qv rfl (Ql (v:=.int .i64 p0.Epoch) Xm rfl B9 rfl) ?_
 refine qv rfl (Dp (a:=Qp (p0.Early+p0.Delay)) (b:=p0.Epoch) rfl rfl)<|qn 2 rfl<|Qa<|Qs ?_
 have l:=(X6.kz K3)
 cases hm
 exact⟨_,_,rfl,Xj rfl (Qn rfl),rfl,l⟩
theorem Qxd {p0 p1 vp0_0 zp0_0 gp0_0 op0_0 vp0_2 zp0_2 gp0_2 op0_2 vp1_0 zp1_0 gp1_0 op1_0 vp1_2 zp1_2 gp1_2 op1_2 r}(hm:Qmz p0 p1=some r){w:World}(g:Rd w zp0_0 gp0_0 op0_0 18 vp0_0 (p0.Items.map Zc.cs))(j:Rd w zp0_2 gp0_2 op0_2 2 vp0_2 (p0.Points.map Qx.cs))(m:Rd w zp1_0 gp1_0 op1_0 18 vp1_0 (p1.Items.map Zc.cs))(n:Rd w zp1_2 gp1_2 op1_2 2 vp1_2 (p1.Points.map Qx.cs)):
 Calls Tryz.prog 70 [.agg (Qq.cs p0 vp0_0 vp0_2).toArray,.agg (Qq.cs p1 vp1_0 vp1_2).toArray].toArray w fun e w'=>∃ v,e=.returned v∧(v=.bool r∧Gr w w'):=by
 have af:=g.lth
 have ag:=j.lth
 have ah:=m.lth
 have ai:=n.lth
 unfold Qmz at hm
 refine Xu 80 Tryz.func70 rfl rfl rfl<|qs 3 rfl<|qe rfl (Xp (cs:=Qq.cs p0 vp0_0 vp0_2) rfl rfl) ?_
 rintro _ w1 ⟨b1,rfl,ab,p,G1⟩
 have z5:=G1.size
 have aj:=p.lt
 refine qe rfl (Xp (cs:=Qq.cs p1 vp1_0 vp1_2) rfl rfl) ?_
 rintro _ w2 ⟨b2,rfl,ac,f,G2⟩
 have z7:=G2.size
 have ak:=f.lt
 refine qm rfl<|Qa<|Qj ?_
 have Y1:=Gr.trans G1 G2
 have X9:=((Gr.refl w).trans Y1)
 refine qj (β:=Bool) (rg 7 37) (fun a1=>[(43,.bool a1)]) (fun a1 wr=>(Ca p0 p1 a1=some r)∧Kz [] w2 wr) ?_ ?_
 · refine qg 37 rfl<|qv rfl (Qg Wq rfl) ?_
   have o:=(p.gr G2)
   refine qv rfl (Ql (v:=vp0_0) Wh rfl o rfl) ?_
   have K:=(g.gr Y1)
   refine qv rfl (Zx (l:=p0.Items) (c:=Zc.cs) Tryz.underlying50 rfl K)<|qv rfl (Qg Wq rfl)<|qv rfl (Ql (v:=vp1_0) Wh rfl f rfl) ?_
   have L:=(m.gr Y1)
   refine qv rfl (Zx (l:=p1.Items) (c:=Zc.cs) Tryz.underlying50 rfl L)<|qv rfl (Zp (a:=(p0.Items.length:Int)) (b:=(p1.Items.length:Int)) rfl rfl)<|Zm hm rfl (Qw rfl) (fun c6 hm=>?_) (fun c6 hm=>?_)
   · refine qn 7 rfl ?_
     refine qn 7 rfl ?_
     refine qn 7 rfl ?_
     refine qn 7 rfl ?_
     refine qm rfl<|Qi ?_
     exact⟨rfl,true,Qh,hm,Xi⟩
   refine qv rfl (Qg Yk rfl)<|qv rfl (Ql (v:=vp0_2) Yi rfl o rfl) ?_
   have M:=(j.gr Y1)
   refine qv rfl (Zx (l:=p0.Points) (c:=Qx.cs) Tryz.underlying51 rfl M)<|qv rfl (Qg Yk rfl)<|qv rfl (Ql (v:=vp1_2) Yi rfl f rfl) ?_
   have N:=(n.gr Y1)
   refine qv rfl (Zx (l:=p1.Points) (c:=Qx.cs) Tryz.underlying51 rfl N)<|qv rfl (Zp (a:=(p0.Points.length:Int)) (b:=(p1.Points.length:Int)) rfl rfl)<|qm rfl<|Zm hm rfl (Qw rfl) (fun c7 hm=>?_) (fun c7 hm=>?_)
   · refine qn 7 rfl ?_
     refine qn 7 rfl ?_
     refine qn 6 rfl<|Qi ?_
     exact⟨rfl,true,Qh,hm,Xi⟩
   refine qv rfl (Qg Gb rfl)<|qv rfl (Ql (v:=wv p0.Base) Zh rfl o rfl)<|qv rfl (Qg Gb rfl)<|qv rfl (Ql (v:=wv p1.Base) Zh rfl f rfl)<|qv rfl (Qe2 (c:=p0.Base) (d:=p1.Base) rfl rfl)<|qm rfl<|Zm hm rfl (Qw rfl) (fun c8 hm=>?_) (fun c8 hm=>?_)
   · refine qn 7 rfl ?_
     refine qn 6 rfl<|Qi ?_
     exact⟨rfl,true,Qh,hm,Xi⟩
   refine qv rfl (Qg Gc rfl)<|qv rfl (Jm (vs:=kb p0.Box) Qy rfl o rfl rfl)<|qv rfl (Qg Gc rfl)<|qv rfl (Jm (vs:=kb p1.Box) Qy rfl f rfl rfl)<|qv rfl (Gj (cf:=kb) (a:=p0.Box) (b:=p1.Box) Gx rfl rfl rfl rfl (fun h=>Dh h))<|qm rfl<|Zm hm rfl (Qw rfl) (fun c9 hm=>?_) (fun c9 hm=>?_)
   · refine qn 6 rfl<|Qi ?_
     exact⟨rfl,true,Qh,hm,Xi⟩
   refine qv rfl (Qg Gz rfl)<|qv rfl (Jm (vs:=kb p0.Check) Qy rfl o rfl rfl)<|qv rfl (Qg Gz rfl)<|qv rfl (Jm (vs:=kb p1.Check) Qy rfl f rfl rfl)<|qv rfl (Gj (cf:=kb) (a:=p0.Check) (b:=p1.Check) Gx rfl rfl rfl rfl (fun h=>Dh h))<|qm rfl<|Qi ?_
   exact⟨rfl,(decide (p0.Check≠p1.Check)),Qh,hm,Xi⟩
 clear hm;rintro a1 w3 ⟨hm,K3⟩
 have al:=K3.size
 unfold Ca at hm
 refine Zw hm rfl (fun c1 hm=>?_) (fun c1 hm=>?_)
 · refine qs 1 rfl<|qm rfl<|qb ?_
   have O:=(X9.kz K3)
   cases hm
   exact⟨_,_,rfl,Xj rfl (Qn rfl),rfl,O⟩
 refine qu<|Qj<|qs 1 rfl<|qm rfl<|Qa ?_
 refine Xz ?_
 have u:=(X9.kz K3)
 have P:=((g.gr Y1).kz K3)
 have Q:=((j.gr Y1).kz K3)
 have x:=((m.gr Y1).kz K3)
 have R:=((n.gr Y1).kz K3)
 refine Kb (α:=Nat × Int) ([4,5]++rg 44 18) (fun⟨n2,a3⟩=>[(4,.bool false),(5,.int .i64 a3)]) (fun⟨n2,a3⟩ wr=>(Xq (Qdl p0 p1) n2 a3=some r)∧Kz [] w3 wr) (fun⟨n2,a3⟩=>n2) ⟨Ze,0⟩ ?_ ?_ ?_
 · exact Qh
 · exact⟨hm,Kz.refl _ _⟩
 clear hm;rintro⟨n2,a3⟩ w4 ⟨hm,K4⟩
 have am:=K4.size
 have hb:=Kd hm;clear hm;obtain⟨n2,rfl,hm⟩:=hb
 generalize q:Xq (Qdl p0 p1) n2=ad at hm
 unfold Qdl at hm
 try dsimp only at hm
 refine Qj<|qs 5 rfl<|qm rfl<|qv rfl (Qg Wq rfl) ?_
 have s:=(((p.gr G2).kz K3).kz K4)
 refine qv rfl (Ql (v:=vp0_0) Wh rfl s rfl) ?_
 have y:=(P.kz K4)
 refine qv rfl (Zx (l:=p0.Items) (c:=Zc.cs) Tryz.underlying50 rfl y)<|qv rfl (Jb (a:=a3) (b:=(p0.Items.length:Int)) rfl rfl)<|Qa<|Zv hm rfl (fun c2 hm=>?_) (fun c2 hm=>?_)
 · refine qu<|Qj<|Xz<|Qj<|dw [([])] [] (.leaf [(0,10),(1,10),(2,10),(3,10),(4,10),(5,10),(6,10),(7,10),(8,10),(9,10),(10,10)]) ?_
   intro w5 G5 an
   refine Xo<|dh 0 rfl rfl (fun w hS=>Qg Wq rfl) ?_
   have S:=(s.gr G5)
   refine dh 0 rfl rfl (fun w hS=>Ql (v:=vp0_0) Wh rfl (Bx.kp S hS) rfl)<|dm 0 rfl rfl ?_
   obtain⟨y4,z,hm⟩:=Qd hm
   have A:=(y.gr G5)
   refine dh 0 rfl rfl (fun w hS=>Vm (i:=a3) Tryz.underlying50 (Wl).siz rfl (Rd.kp A hS) rfl z)<|dh 0 rfl rfl (fun w hS=>He Wl rfl (Rd.kp A hS) z (by first|rfl|omega))<|dh 0 rfl rfl (fun w hS=>Qg Wq rfl) ?_
   have T:=(((f.kz K3).kz K4).gr G5)
   refine dh 0 rfl rfl (fun w hS=>Ql (v:=vp1_0) Wh rfl (Bx.kp T hS) rfl)<|dm 0 rfl rfl ?_
   obtain⟨y5,B,hm⟩:=Qd hm
   have C:=((x.kz K4).gr G5)
   refine dh 0 rfl rfl (fun w hS=>Vm (i:=a3) Tryz.underlying50 (Wl).siz rfl (Rd.kp C hS) rfl B)<|dh 0 rfl rfl (fun w hS=>He Wl rfl (Rd.kp C hS) B (by first|rfl|omega))<|dh 0 rfl rfl (fun w hS=>Gj (cf:=Zc.cs) (a:=y4) (b:=y5) Qs4 rfl rfl rfl rfl (fun h=>Zc.cs_inj h))<|Qa<|Zv hm rfl (fun c3 hm=>?_) (fun c3 hm=>?_)
   · refine qs 1 rfl<|qm rfl<|Qa<|Qs<|Je<|Zb ?_
     refine Zb<|Je<|Zb ?_
     have U:=((u.kz K4).trans G5)
     cases hm
     exact⟨_,_,rfl,Xj rfl (Qn rfl),rfl,U⟩
   refine Vl<|Zo<|Zg<|qg 3 rfl<|qm rfl<|qv rfl (Zy (k:=.i64) (a:=a3) (b:=1) rfl rfl)<|qm rfl ?_
   refine Qi ?_
   have K_25:Kz [] w3 w5:=(K4.gr G5)
   subst q
   exact⟨rfl,⟨n2,Qp (a3+1)⟩,Qh,⟨hm,K_25⟩,Nat.lt_succ_self _⟩
 refine Jl<|Zd<|Zd<|Jk<|Zg<|Qj<|Qj ?_
 refine qg 1 rfl<|qm rfl<|Qa<|Xz ?_
 have D:=(u.kz K4)
 have V:=(Q.kz K4)
 have ao:=(x.kz K4)
 have W:=(R.kz K4)
 refine Kb (α:=Nat × Int) ([4,6]++rg 62 18) (fun⟨n3,a7⟩=>[(4,.bool false),(6,.int .i64 a7)]) (fun⟨n3,a7⟩ wr=>(Xq (Qdm p0 p1) n3 a7=some r)∧Kz [] w4 wr) (fun⟨n3,a7⟩=>n3) ⟨Ze,0⟩ ?_ ?_ ?_
 · exact Qh
 · exact⟨hm,Kz.refl _ _⟩
 clear hm;rintro⟨n3,a7⟩ w6 ⟨hm,K6⟩
 have ap:=K6.size
 have hb:=Kd hm;clear hm;obtain⟨n3,rfl,hm⟩:=hb
 generalize t:Xq (Qdm p0 p1) n3=ae at hm
 unfold Qdm at hm
 try dsimp only at hm
 refine Qj<|qs 5 rfl<|qm rfl<|qv rfl (Qg Yk rfl) ?_
 have E:=(s.kz K6)
 refine qv rfl (Ql (v:=vp0_2) Yi rfl E rfl) ?_
 have F:=(V.kz K6)
 refine qv rfl (Zx (l:=p0.Points) (c:=Qx.cs) Tryz.underlying51 rfl F)<|qv rfl (Jb (a:=a7) (b:=(p0.Points.length:Int)) rfl rfl)<|Qa<|Kg hm rfl (fun c4 hm=>?_) (fun c4 hm=>?_)
 · refine Jl<|Zd<|Zd<|Jk<|Zg<|qs 1 rfl ?_
   refine qm rfl<|Qa<|Qs ?_
   have X:=(D.kz K6)
   cases hm
   exact⟨_,_,rfl,Xj rfl (Qn rfl),rfl,X⟩
 refine qu<|Qj<|Xz<|Qj<|dw [([])] [] (.leaf [(0,10),(1,10),(2,10),(3,10),(4,10),(5,10),(6,10),(7,10),(8,10),(9,10),(10,10)]) ?_
 intro w7 G7 aq
 refine Xo<|dh 0 rfl rfl (fun w hS=>Qg Yk rfl) ?_
 have Y:=(E.gr G7)
 refine dh 0 rfl rfl (fun w hS=>Ql (v:=vp0_2) Yi rfl (Bx.kp Y hS) rfl)<|dm 0 rfl rfl ?_
 obtain⟨y8,G,hm⟩:=Qd hm
 have H:=(F.gr G7)
 refine dh 0 rfl rfl (fun w hS=>Vm (i:=a7) Tryz.underlying51 (Vq).siz rfl (Rd.kp H hS) rfl G)<|dh 0 rfl rfl (fun w hS=>He Vq rfl (Rd.kp H hS) G (by first|rfl|omega))<|dh 0 rfl rfl (fun w hS=>Qg Yk rfl) ?_
 have Z:=((((f.kz K3).kz K4).kz K6).gr G7)
 refine dh 0 rfl rfl (fun w hS=>Ql (v:=vp1_2) Yi rfl (Bx.kp Z hS) rfl)<|dm 0 rfl rfl ?_
 obtain⟨y9,I,hm⟩:=Qd hm
 have J:=((W.kz K6).gr G7)
 refine dh 0 rfl rfl (fun w hS=>Vm (i:=a7) Tryz.underlying51 (Vq).siz rfl (Rd.kp J hS) rfl I)<|dh 0 rfl rfl (fun w hS=>He Vq rfl (Rd.kp J hS) I (by first|rfl|omega))<|dh 0 rfl rfl (fun w hS=>Gj (cf:=Qx.cs) (a:=y8) (b:=y9) Qs6 rfl rfl rfl rfl (fun h=>Qx.cs_inj h))<|Qa<|Zv hm rfl (fun c5 hm=>?_) (fun c5 hm=>?_)
 · refine qs 1 rfl<|qm rfl<|Qa<|Qs<|Je<|Zb ?_
   refine Zb<|Je<|Zb ?_
   have aa:=((D.kz K6).trans G7)
   cases hm
   exact⟨_,_,rfl,Xj rfl (Qn rfl),rfl,aa⟩
 refine Vl<|Zo<|Zg<|qg 3 rfl<|qm rfl<|qv rfl (Zy (k:=.i64) (a:=a7) (b:=1) rfl rfl)<|qm rfl ?_
 refine Qi ?_
 have K_38:Kz [] w4 w7:=(K6.gr G7)
 subst t
 exact⟨rfl,⟨n3,Qp (a7+1)⟩,Qh,⟨hm,K_38⟩,Nat.lt_succ_self _⟩
theorem Qxc {p0 p1 vp0_1 zp0_1 gp0_1 op0_1 vp1_2 zp1_2 gp1_2 op1_2 vp1_4 zp1_4 gp1_4 op1_4 vp1_39 zp1_39 gp1_39 op1_39 r}(hm:Qmy p0 p1=some r){w:World}(f:Rd w zp0_1 gp0_1 op0_1 18 vp0_1 (p0.Labels.map Zr.cs))(g:Rd w zp1_2 gp1_2 op1_2 18 vp1_2 (p1.Head.Items.map Zc.cs))(h:Rd w zp1_4 gp1_4 op1_4 2 vp1_4 (p1.Head.Points.map Qx.cs))(d:Rd w zp1_39 gp1_39 op1_39 1 vp1_39 (p1.Data.map Xx)):
 Calls Tryz.prog 27 [.agg (Xt.cs p0 vp0_1).toArray,.agg (Qo.cs p1 vp1_2 vp1_4 vp1_39).toArray].toArray w fun e w'=>∃ v,e=.returned v∧(v=.bool r∧Gr w w'):=by
 have y:=f.lth
 have z:=g.lth
 have A:=h.lth
 have B:=d.lth
 unfold Qmy at hm
 refine Xu 29 Tryz.func27 rfl rfl rfl<|qs 3 rfl<|qe rfl (Xp (cs:=Xt.cs p0 vp0_1) rfl rfl) ?_
 rintro _ w1 ⟨b1,rfl,u,j,G1⟩
 have z5:=G1.size
 have C:=j.lt
 refine qe rfl (Xp (cs:=Qo.cs p1 vp1_2 vp1_4 vp1_39) rfl rfl) ?_
 rintro _ w2 ⟨b2,rfl,x,i,G2⟩
 have z7:=G2.size
 have D:=i.lt
 refine qm rfl<|qd 25 rfl<|qv rfl (Qg Uh rfl) ?_
 have B9:=(j.gr G2)
 refine qv rfl (Ql (v:=vp0_1) Bs rfl B9 rfl) ?_
 have Y1:=Gr.trans G1 G2
 have k:=(f.gr Y1)
 refine qv rfl (Zx (l:=p0.Labels) (c:=Zr.cs) Tryz.underlying63 rfl k)<|qv rfl (Ve (a:=(p0.Labels.length:Int)) (b:=100) rfl rfl)<|Zm hm rfl (Qw rfl) (fun c1 hm=>?_) (fun c1 hm=>?_)
 · refine qn 7 rfl ?_
   refine qn 7 rfl ?_
   refine qn 6 rfl<|Qa ?_
   refine Qs ?_
   have m:=((Gr.refl w).trans Y1)
   cases hm
   exact⟨_,_,rfl,Xj rfl (Qn rfl),rfl,m⟩
 refine qv rfl (Qg Vu rfl)<|qv rfl (Qg Wq rfl)<|qv rfl (Ql (v:=vp1_2) Wh rfl i rfl) ?_
 have n:=(g.gr Y1)
 refine qv rfl (Zx (l:=p1.Head.Items) (c:=Zc.cs) Tryz.underlying50 rfl n)<|qv rfl (Ve (a:=(p1.Head.Items.length:Int)) (b:=100) rfl rfl)<|qm rfl<|Zm hm rfl (Qw rfl) (fun c2 hm=>?_) (fun c2 hm=>?_)
 · refine qn 7 rfl ?_
   refine qn 6 rfl<|Qa ?_
   refine Qs ?_
   have o:=((Gr.refl w).trans Y1)
   cases hm
   exact⟨_,_,rfl,Xj rfl (Qn rfl),rfl,o⟩
 refine qv rfl (Qg Vu rfl)<|qv rfl (Qg Yk rfl)<|qv rfl (Ql (v:=vp1_4) Yi rfl i rfl) ?_
 have p:=(h.gr Y1)
 refine qv rfl (Zx (l:=p1.Head.Points) (c:=Qx.cs) Tryz.underlying51 rfl p)<|qv rfl (Ve (a:=(p1.Head.Points.length:Int)) (b:=50) rfl rfl)<|qm rfl<|Zm hm rfl (Qw rfl) (fun c3 hm=>?_) (fun c3 hm=>?_)
 · refine qn 6 rfl<|Qa ?_
   refine Qs ?_
   have q:=((Gr.refl w).trans Y1)
   cases hm
   exact⟨_,_,rfl,Xj rfl (Qn rfl),rfl,q⟩
 refine qv rfl (Qg Sy rfl)<|qv rfl (Ql (v:=vp1_39) Yo rfl i rfl) ?_
 have s:=(d.gr Y1)
 refine qv rfl (Zx (l:=p1.Data) (c:=Xx) Tryz.underlying54 rfl s)<|qv rfl (Ve (a:=(p1.Data.length:Int)) (b:=1000) rfl rfl)<|qn 2 rfl<|Qa<|Qs ?_
 have t:=((Gr.refl w).trans Y1)
 cases hm
 exact⟨_,_,rfl,Xj rfl (Qn rfl),rfl,t⟩
end Go.Proofs.YtplcaaglieefgaaGreat.Mx
