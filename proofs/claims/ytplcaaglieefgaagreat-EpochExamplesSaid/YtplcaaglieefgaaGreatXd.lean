/- Walks that follow mirrors: Xd. Printed by mx.py. -/
import Derived.Test.YtplcaaglieefgaaGreatXc
import Derived.Test.YtplcaaglieefgaaGreatZd
set_option linter.unusedVariables false
set_option linter.unusedSimpArgs false
set_option maxRecDepth 100000
set_option maxHeartbeats 2000000
namespace Go.Proofs.YtplcaaglieefgaaGreat.Mx
open Go Go.RowKit Go.Sx
theorem Ya:Kx Tryz.prog 94 5:=fun _=>⟨by kernel_rfl,by kernel_rfl⟩
theorem Hw:FA Tryz.prog 94 1 1:=fun _ _ _=>by kernel_rfl
theorem Pd:FA Tryz.prog 94 0 0:=fun _ _ _=>by kernel_rfl
theorem Bi:FA Tryz.prog 94 2 2:=fun _ _ _=>by kernel_rfl
theorem De:FA Tryz.prog 94 3 3:=fun _ _ _=>by kernel_rfl
theorem Lc:FA Tryz.prog 94 4 4:=fun _ _ _=>by kernel_rfl
theorem Mp:En Tryz.prog 40:=fun _ _=>by kernel_rfl
theorem Sk:En Tryz.prog 60:=fun _ _=>by kernel_rfl
theorem Qqc:En Tryz.prog 171:=fun _ _=>by kernel_rfl
theorem Qk4:En Tryz.prog 155:=fun _ _=>by kernel_rfl
theorem Qq8:En Tryz.prog 156:=fun _ _=>by kernel_rfl
theorem Qky:En Tryz.prog 86:=fun _ _=>by kernel_rfl
theorem Qo7:ZV Tryz.prog 3 (.int .i64 0):=fun _=>by kernel_rfl
theorem Rb:Hf Tryz.prog 45 1 3 1 [.int .i64 0]:=Gp Tryz.underlying45 (Xm).siz Qo7 rfl rfl (by kernel_rfl)
theorem Qog:Pm Tryz.prog 45 3 1 8:=Sa Tryz.underlying45 rfl (by kernel_rfl)
theorem Qkv:En Tryz.prog 83:=fun _ _=>by kernel_rfl
theorem Qk6:En Tryz.prog 170:=fun _ _=>by kernel_rfl
theorem Po:CV Tryz.prog 5 3 .i64:=fun _ _ _=>by kernel_rfl
theorem Qkw:En Tryz.prog 84:=fun _ _=>by kernel_rfl
theorem Qkx:En Tryz.prog 85:=fun _ _=>by kernel_rfl
theorem Km:ZV Tryz.prog 56 (.agg [.int .u8 0,.int .i64 0,.slice none 0 0,.int .u64 0,.slice none 0 0,.int .u8 0,.int .u8 0,.int .u8 0,.int .u8 0,.int .u8 0,.int .u8 0,.int .u8 0,.int .u8 0,.int .u8 0,.int .u8 0,.int .u8 0,.int .u8 0,.int .u8 0,.int .u8 0,.int .u8 0,.int .u8 0,.int .u8 0,.int .u8 0,.int .u8 0,.int .u8 0,.int .u8 0,.int .u8 0,.int .u8 0,.int .u8 0,.int .u8 0,.int .u8 0,.int .u8 0,.int .u8 0,.int .u8 0,.int .u8 0,.int .u8 0,.int .u8 0,.int .u8 0,.int .u64 0,.slice none 0 0,.int .u8 0,.int .u8 0,.int .u8 0,.int .u8 0,.int .u8 0,.int .u8 0,.int .u8 0,.int .u8 0,.int .u8 0,.int .u8 0,.int .u8 0,.int .u8 0,.int .u8 0,.int .u8 0,.int .u8 0,.int .u8 0].toArray):=fun _=>by kernel_rfl
theorem Qba:En Tryz.prog 51:=fun _ _=>by kernel_rfl
theorem Vt:ZV Tryz.prog 143 (.agg [.nilFunc,.nilFunc,.nilFunc,.nilFunc].toArray):=fun _=>by kernel_rfl
theorem Lo:Vn Tryz.prog 129:=fun _=>⟨by kernel_rfl,by kernel_rfl⟩
theorem Qhi:Vn Tryz.prog 69:=fun _=>⟨by kernel_rfl,by kernel_rfl⟩
theorem Qhj:Vn Tryz.prog 73:=fun _=>⟨by kernel_rfl,by kernel_rfl⟩
theorem Qhg:Vn Tryz.prog 141:=fun _=>⟨by kernel_rfl,by kernel_rfl⟩
theorem Hr:BS Tryz.prog 143 (fun i=>[(0,1),(1,1),(2,1),(3,1)][i]?) [.nilFunc,.nilFunc,.nilFunc,.nilFunc]:=Hg Tryz.underlying143 Vt ⟨rfl,(Lo).siz,rfl,(Qhi).siz,rfl,(Qhj).siz,rfl,(Qhg).siz,trivial⟩
theorem Zn:Kx Tryz.prog 143 4:=fun _=>⟨by kernel_rfl,by kernel_rfl⟩
theorem Ov:ZV Tryz.prog 229 (.agg [.nilFunc,.nilFunc,.nilFunc,.nilFunc,.nilFunc,.nilFunc,.nilFunc,.nilFunc,.nilFunc,.nilFunc,.nilFunc,.nilFunc,.nilFunc,.nilFunc,.nilFunc,.nilFunc,.nilFunc,.nilFunc,.nilFunc,.nilFunc].toArray):=fun _=>by kernel_rfl
theorem Qa1:BA Tryz.prog 229 4 [.nilFunc,.nilFunc,.nilFunc,.nilFunc,.nilFunc,.nilFunc,.nilFunc,.nilFunc,.nilFunc,.nilFunc,.nilFunc,.nilFunc,.nilFunc,.nilFunc,.nilFunc,.nilFunc,.nilFunc,.nilFunc,.nilFunc,.nilFunc]:=⟨_,_,Tryz.underlying229,(Zn).siz,Ov⟩
theorem Qa0:Kx Tryz.prog 229 20:=fun _=>⟨by kernel_rfl,by kernel_rfl⟩
theorem Su:FA Tryz.prog 143 0 0:=fun _ _ _=>by kernel_rfl
theorem Qqh:En Tryz.prog 212:=fun _ _=>by kernel_rfl
theorem Qqi:En Tryz.prog 213:=fun _ _=>by kernel_rfl
theorem Qlj:FA Tryz.prog 143 3 3:=fun _ _ _=>by kernel_rfl
theorem Af:En Tryz.prog 17:=fun _ _=>by kernel_rfl
theorem Qq2:En Tryz.prog 119:=fun _ _=>by kernel_rfl
theorem Qbc:En Tryz.prog 99:=fun _ _=>by kernel_rfl
theorem Qq5:En Tryz.prog 122:=fun _ _=>by kernel_rfl
theorem Qqf:En Tryz.prog 21:=fun _ _=>by kernel_rfl
theorem Yo:Vn Tryz.prog 54:=fun _=>⟨by kernel_rfl,by kernel_rfl⟩
theorem Nr:BS Tryz.prog 56 (fun i=>[(0,1),(1,1),(2,35),(37,1),(38,1),(39,1),(40,16)][i]?) [.int .u8 0,.int .i64 0,.slice none 0 0,.int .u64 0,.slice none 0 0,.int .u8 0,.int .u8 0,.int .u8 0,.int .u8 0,.int .u8 0,.int .u8 0,.int .u8 0,.int .u8 0,.int .u8 0,.int .u8 0,.int .u8 0,.int .u8 0,.int .u8 0,.int .u8 0,.int .u8 0,.int .u8 0,.int .u8 0,.int .u8 0,.int .u8 0,.int .u8 0,.int .u8 0,.int .u8 0,.int .u8 0,.int .u8 0,.int .u8 0,.int .u8 0,.int .u8 0,.int .u8 0,.int .u8 0,.int .u8 0,.int .u8 0,.int .u8 0,.int .u8 0,.int .u64 0,.slice none 0 0,.int .u8 0,.int .u8 0,.int .u8 0,.int .u8 0,.int .u8 0,.int .u8 0,.int .u8 0,.int .u8 0,.int .u8 0,.int .u8 0,.int .u8 0,.int .u8 0,.int .u8 0,.int .u8 0,.int .u8 0,.int .u8 0]:=Hg Tryz.underlying56 Km ⟨rfl,(Zj).siz,rfl,(Xm).siz,rfl,(Jw).siz,rfl,(Zj).siz,rfl,(Zh).siz,rfl,(Yo).siz,rfl,(Qy).siz,trivial⟩
theorem Zl:Kx Tryz.prog 56 56:=fun _=>⟨by kernel_rfl,by kernel_rfl⟩
theorem Qx8:ZV Tryz.prog 226 (.agg [.slice none 0 0].toArray):=fun _=>by kernel_rfl
theorem Qor:BS Tryz.prog 226 (fun i=>[(0,1)][i]?) [.slice none 0 0]:=Hg Tryz.underlying226 Qx8 ⟨rfl,(Yo).siz,trivial⟩
theorem Ih:FA Tryz.prog 56 0 0:=fun _ _ _=>by kernel_rfl
theorem Uf:FA Tryz.prog 226 0 0:=fun _ _ _=>by kernel_rfl
theorem Pn:CV Tryz.prog 22 5 .u8:=fun _ _ _=>by kernel_rfl
theorem Ft:ZV Tryz.prog 5 (.int .u8 0):=fun _=>by kernel_rfl
theorem Qja:Hf Tryz.prog 54 1 5 1 [.int .u8 0]:=Gp Tryz.underlying54 (Zj).siz Ft rfl rfl (by kernel_rfl)
theorem Tj:Pm Tryz.prog 54 5 1 1:=Sa Tryz.underlying54 rfl (by kernel_rfl)
theorem Dv:En Tryz.prog 114:=fun _ _=>by kernel_rfl
theorem Ii:FA Tryz.prog 56 3 37:=fun _ _ _=>by kernel_rfl
theorem Qcf:FA Tryz.prog 56 4 38:=fun _ _ _=>by kernel_rfl
theorem Sy:FA Tryz.prog 56 5 39:=fun _ _ _=>by kernel_rfl
theorem La:FA Tryz.prog 56 1 1:=fun _ _ _=>by kernel_rfl
theorem Vu:FA Tryz.prog 56 2 2:=fun _ _ _=>by kernel_rfl
theorem Qff:En Tryz.prog 115:=fun _ _=>by kernel_rfl
theorem Qqb:En Tryz.prog 159:=fun _ _=>by kernel_rfl
theorem Qqa:En Tryz.prog 158:=fun _ _=>by kernel_rfl
theorem Qq9:En Tryz.prog 157:=fun _ _=>by kernel_rfl
theorem Rt:En Tryz.prog 50:=fun _ _=>by kernel_rfl
theorem Sl:En Tryz.prog 67:=fun _ _=>by kernel_rfl
theorem Qkr:En Tryz.prog 48:=fun _ _=>by kernel_rfl
theorem Na:FA Tryz.prog 56 6 40:=fun _ _ _=>by kernel_rfl
theorem Qks:En Tryz.prog 64:=fun _ _=>by kernel_rfl
theorem Qbb:En Tryz.prog 65:=fun _ _=>by kernel_rfl
theorem Qfa:CV Tryz.prog 3 5 .u8:=fun _ _ _=>by kernel_rfl
theorem El:BS Tryz.prog 326 (fun i=>[(0,1),(1,1)][i]?) [.int .u64 0,.int .u64 0]:=Hg Tryz.underlying326 Tg ⟨rfl,(Zh).siz,rfl,(Zh).siz,trivial⟩
theorem Aj:En Tryz.prog 229:=fun _ _=>by kernel_rfl
theorem Qfg:En Tryz.prog 124:=fun _ _=>by kernel_rfl
theorem Qkt:En Tryz.prog 66:=fun _ _=>by kernel_rfl
theorem Vx:ZV Tryz.prog 105 (.agg [.int .i64 0,.slice none 0 0,.int .u64 0,.int .u64 0,.int .i64 0,.bool false,.int .i64 0,.int .u8 0,.int .u8 0,.int .u8 0,.int .u8 0,.int .u8 0,.int .u8 0,.int .u8 0,.int .u8 0,.int .u8 0,.int .u8 0,.int .u8 0,.int .u8 0,.int .u8 0,.int .u8 0,.int .u8 0,.int .u8 0,.bool false,.int .i64 0,.int .u8 0,.int .u8 0,.int .u8 0,.int .u8 0,.int .u8 0,.int .u8 0,.int .u8 0,.int .u8 0,.int .u8 0,.int .u8 0,.int .u8 0,.int .u8 0,.int .u8 0,.int .u8 0,.int .u8 0,.int .u8 0].toArray):=fun _=>by kernel_rfl
theorem Qkq:En Tryz.prog 43:=fun _ _=>by kernel_rfl
theorem Qku:En Tryz.prog 71:=fun _ _=>by kernel_rfl
theorem Qix:Kx Tryz.prog 103 36:=fun _=>⟨by kernel_rfl,by kernel_rfl⟩
theorem Cr:BS Tryz.prog 105 (fun i=>[(0,4),(4,1),(5,36)][i]?) [.int .i64 0,.slice none 0 0,.int .u64 0,.int .u64 0,.int .i64 0,.bool false,.int .i64 0,.int .u8 0,.int .u8 0,.int .u8 0,.int .u8 0,.int .u8 0,.int .u8 0,.int .u8 0,.int .u8 0,.int .u8 0,.int .u8 0,.int .u8 0,.int .u8 0,.int .u8 0,.int .u8 0,.int .u8 0,.int .u8 0,.bool false,.int .i64 0,.int .u8 0,.int .u8 0,.int .u8 0,.int .u8 0,.int .u8 0,.int .u8 0,.int .u8 0,.int .u8 0,.int .u8 0,.int .u8 0,.int .u8 0,.int .u8 0,.int .u8 0,.int .u8 0,.int .u8 0,.int .u8 0]:=Hg Tryz.underlying105 Vx ⟨rfl,(Vf).siz,rfl,(Xm).siz,rfl,(Qix).siz,trivial⟩
theorem Ju:Kx Tryz.prog 105 41:=fun _=>⟨by kernel_rfl,by kernel_rfl⟩
theorem Qlh:FA Tryz.prog 143 1 1:=fun _ _ _=>by kernel_rfl
theorem Qq0:En Tryz.prog 117:=fun _ _=>by kernel_rfl
theorem Qq3:En Tryz.prog 120:=fun _ _=>by kernel_rfl
theorem Qq7:En Tryz.prog 14:=fun _ _=>by kernel_rfl
theorem Mq {p0 r}(hm:Sn p0=some r){w:World}:
 Calls Tryz.prog 40 [.agg (Zi.cs p0).toArray].toArray w fun e w'=>∃ v,e=.returned v∧(v=.int .i64 r∧Gr w w'):=by
 unfold Sn at hm
 refine Xu 78 Tryz.func40 rfl rfl rfl<|qs 2 rfl<|qe rfl (Xp (cs:=Zi.cs p0) rfl rfl) ?_
 rintro _ w1 ⟨b1,rfl,h,c,G1⟩
 have z1:=G1.size
 have i:=c.lt
 refine qm rfl<|Qa<|Qj ?_
 have X3:=((Gr.refl w).trans G1)
 refine qj (β:=Bool) (rg 4 31) (fun a1=>[(34,.bool a1)]) (fun a1 wr=>(Rv p0 a1=some r)∧Kz [] w1 wr) ?_ ?_
 · refine qg 31 rfl<|qv rfl (Qg Hw rfl)<|qv rfl (Ql (v:=.int .i64 p0.Word) Xm rfl c rfl)<|qv rfl (Jb (a:=p0.Word) (b:=1) rfl rfl)<|Zm hm rfl (Qw rfl) (fun c7 hm=>?_) (fun c7 hm=>?_)
   · refine qn 7 rfl ?_
     refine qn 7 rfl ?_
     refine qn 7 rfl ?_
     refine qn 6 rfl<|Qi ?_
     exact⟨rfl,true,Qh,hm,Xi⟩
   refine qv rfl (Qg Hw rfl)<|qv rfl (Ql (v:=.int .i64 p0.Word) Xm rfl c rfl)<|qv rfl (Ve (a:=p0.Word) (b:=1000) rfl rfl)<|qm rfl<|Zm hm rfl (Qw rfl) (fun c8 hm=>?_) (fun c8 hm=>?_)
   · refine qn 7 rfl ?_
     refine qn 7 rfl ?_
     refine qn 7 rfl ?_
     refine qm rfl<|Qi ?_
     exact⟨rfl,true,Qh,hm,Xi⟩
   refine qv rfl (Qg Pd rfl)<|qv rfl (Ql (v:=.int .i64 p0.Epoch) Xm rfl c rfl)<|qv rfl (Qg Hw rfl)<|qv rfl (Ql (v:=.int .i64 p0.Word) Xm rfl c rfl)<|qv rfl (Jb (a:=p0.Epoch) (b:=p0.Word) rfl rfl)<|qm rfl<|Zm hm rfl (Qw rfl) (fun c9 hm=>?_) (fun c9 hm=>?_)
   · refine qn 7 rfl ?_
     refine qn 7 rfl ?_
     refine qm rfl<|Qi ?_
     exact⟨rfl,true,Qh,hm,Xi⟩
   refine qv rfl (Qg Pd rfl)<|qv rfl (Ql (v:=.int .i64 p0.Epoch) Xm rfl c rfl)<|qv rfl (Qg Hw rfl)<|qv rfl (Ql (v:=.int .i64 p0.Word) Xm rfl c rfl)<|qv rfl (Wj (k:=.i64) (a:=1000) (b:=p0.Word) rfl rfl)<|qv rfl (Ve (a:=p0.Epoch) (b:=Qp (1000*p0.Word)) rfl rfl)<|qm rfl ?_
   refine Zm hm rfl (Qw rfl) (fun d hm=>?_) (fun d hm=>?_)
   · refine qn 7 rfl ?_
     refine Qi ?_
     exact⟨rfl,true,Qh,hm,Xi⟩
   refine qv rfl (Qg Pd rfl)<|qv rfl (Ql (v:=.int .i64 p0.Epoch) Xm rfl c rfl)<|qv rfl (Qg Hw rfl)<|qv rfl (Ql (v:=.int .i64 p0.Word) Xm rfl c rfl) ?_
   obtain⟨x3,f,hm⟩:=Qd hm
   refine qv rfl (Db (a:=p0.Epoch) (b:=p0.Word) rfl rfl f)<|qv rfl (Zp (a:=x3) (b:=0) rfl rfl)<|qm rfl<|Qi ?_
   exact⟨rfl,(decide (x3≠0)),Qh,hm,Xi⟩
 clear hm;rintro a1 w2 ⟨hm,K2⟩
 have z4:=K2.size
 unfold Rv at hm
 refine Zw hm rfl (fun c1 hm=>?_) (fun c1 hm=>?_)
 · refine qs 1 rfl<|qm rfl<|qb ?_
   have X5:=(X3.kz K2)
   cases hm
   exact⟨_,_,rfl,Xj rfl (Qn rfl),rfl,X5⟩
 refine qu<|qs 4 rfl<|qv rfl (Qg Hw rfl) ?_
 have B6:=(c.kz K2)
 refine qv rfl (Ql (v:=.int .i64 p0.Word) Xm rfl B6 rfl)<|qv rfl (Wj (k:=.i64) (a:=3) (b:=p0.Word) rfl rfl)<|qm rfl<|Qa<|Qj ?_
 have X7:=(X3.kz K2)
 refine qj (β:=Bool) (rg 38 40) (fun a2=>[(77,.bool a2)]) (fun a2 wr=>(Rw a2=some r)∧Kz [] w2 wr) ?_ ?_
 · refine qg 40 rfl<|qv rfl (Qg Bi rfl)<|qv rfl (Ql (v:=.int .i64 p0.Early) Xm rfl B6 rfl)<|qv rfl (Qg De rfl)<|qv rfl (Ql (v:=.int .i64 p0.Drift) Xm rfl B6 rfl)<|qv rfl (Qg Lc rfl)<|qv rfl (Ql (v:=.int .i64 p0.Delay) Xm rfl B6 rfl) ?_
   refine qv rfl (Qwt rfl rfl rfl)<|qv rfl (Jb (a:=Gf (Gf p0.Early p0.Drift) p0.Delay) (b:=0) rfl rfl)<|Zm hm rfl (Qw rfl) (fun c3 hm=>?_) (fun c3 hm=>?_)
   · refine qn 7 rfl ?_
     refine qn 7 rfl ?_
     refine qn 7 rfl ?_
     refine qn 7 rfl ?_
     refine qn 3 rfl<|Qi ?_
     exact⟨rfl,true,Qh,hm,Xi⟩
   refine qv rfl (Qg De rfl)<|qv rfl (Ql (v:=.int .i64 p0.Drift) Xm rfl B6 rfl)<|qm rfl<|qv rfl (Vd (a:=p0.Drift) (b:=Qp (3*p0.Word)) rfl rfl)<|qm rfl<|Zm hm rfl (Qw rfl) (fun c4 hm=>?_) (fun c4 hm=>?_)
   · refine qn 7 rfl ?_
     refine qn 7 rfl ?_
     refine qn 7 rfl ?_
     refine qn 4 rfl<|Qi ?_
     exact⟨rfl,true,Qh,hm,Xi⟩
   refine qv rfl (Qg Lc rfl)<|qv rfl (Ql (v:=.int .i64 p0.Delay) Xm rfl B6 rfl)<|qm rfl<|qv rfl (Vd (a:=p0.Delay) (b:=Qp (3*p0.Word)) rfl rfl)<|qm rfl<|Zm hm rfl (Qw rfl) (fun c5 hm=>?_) (fun c5 hm=>?_)
   · refine qn 7 rfl ?_
     refine qn 7 rfl ?_
     refine qn 5 rfl<|Qi ?_
     exact⟨rfl,true,Qh,hm,Xi⟩
   refine qv rfl (Qg De rfl)<|qv rfl (Ql (v:=.int .i64 p0.Drift) Xm rfl B6 rfl)<|qv rfl (Wj (k:=.i64) (a:=2) (b:=p0.Drift) rfl rfl)<|qv rfl (Qg Lc rfl)<|qv rfl (Ql (v:=.int .i64 p0.Delay) Xm rfl B6 rfl)<|qv rfl (Zy (k:=.i64) (a:=Qp (2*p0.Drift)) (b:=p0.Delay) rfl rfl)<|qm rfl ?_
   refine qv rfl (Vd (a:=Qp ((Qp (2*p0.Drift))+p0.Delay)) (b:=Qp (3*p0.Word)) rfl rfl)<|qm rfl<|Zm hm rfl (Qw rfl) (fun c6 hm=>?_) (fun c6 hm=>?_)
   · refine qn 7 rfl ?_
     refine qn 2 rfl<|Qi ?_
     exact⟨rfl,true,Qh,hm,Xi⟩
   refine qv rfl (Qg Bi rfl)<|qv rfl (Ql (v:=.int .i64 p0.Early) Xm rfl B6 rfl)<|qv rfl (Qg Pd rfl)<|qv rfl (Ql (v:=.int .i64 p0.Epoch) Xm rfl B6 rfl)<|qv rfl (Qg Lc rfl)<|qv rfl (Ql (v:=.int .i64 p0.Delay) Xm rfl B6 rfl)<|qv rfl (Ys (k:=.i64) (a:=p0.Epoch) (b:=p0.Delay) rfl rfl) ?_
   refine qv rfl (Ve (a:=p0.Early) (b:=Qp (p0.Epoch-p0.Delay)) rfl rfl)<|qm rfl<|Qi ?_
   exact⟨rfl,(decide (Qp (p0.Epoch-p0.Delay)<p0.Early)),Qh,hm,Xi⟩
 clear hm;rintro a2 w3 ⟨hm,K3⟩
 have z8:=K3.size
 unfold Rw at hm
 refine Zw hm rfl (fun c2 hm=>?_) (fun c2 hm=>?_)
 · refine qs 1 rfl<|qm rfl<|qb ?_
   have X9:=(X7.kz K3)
   cases hm
   exact⟨_,_,rfl,Xj rfl (Qn rfl),rfl,X9⟩
 refine qu<|qs 1 rfl<|qm rfl<|Qa<|Qs ?_
 have g:=(X7.kz K3)
 cases hm
 exact⟨_,_,rfl,Xj rfl (Qn rfl),rfl,g⟩
theorem Sr {p0 r}(hm:Tu p0=some r){w:World}:
 Calls Tryz.prog 60 [.int .i64 p0].toArray w fun e w'=>∃ v,e=.returned v∧(v=.bool r∧Gr w w'):=by
 unfold Tu at hm
 refine Xu 9 Tryz.func60 rfl rfl rfl<|qs 1 rfl<|qm rfl<|qd 7 rfl ?_
 refine qm rfl<|qv rfl (Vd (a:=p0) (b:=0) rfl rfl)<|Zm hm rfl (Qw rfl) (fun c1 hm=>?_) (fun c1 hm=>?_)
 · refine qm rfl<|qv rfl (Dp (a:=p0) (b:=1099511627776) rfl rfl)<|qn 2 rfl<|Qa<|Qs ?_
   cases hm
   exact⟨_,_,rfl,Xj rfl (Qn rfl),rfl,(Gr.refl w)⟩
 refine qn 4 rfl<|Qa<|Qs ?_
 cases hm
 exact⟨_,_,rfl,Xj rfl (Qn rfl),rfl,(Gr.refl w)⟩
theorem Qrk {p0 r}(hm:Qg1 p0=some r){w:World}:
 Calls Tryz.prog 171 [.agg (Zi.cs p0).toArray].toArray w fun e w'=>∃ v,e=.returned v∧(v=.int .i64 r∧Gr w w'):=by
 unfold Qg1 at hm
 refine Xu 5 Tryz.func171 rfl rfl rfl<|qs 2 rfl<|qe rfl (Xp (cs:=Zi.cs p0) rfl rfl) ?_
 rintro _ w1 ⟨b1,rfl,b,a,G1⟩
 have z1:=G1.size
 have c:=a.lt
 refine qm rfl<|qd 3 rfl<|qv rfl (Qg Pd rfl)<|qv rfl (Ql (v:=.int .i64 p0.Epoch) Xm rfl a rfl)<|qm rfl ?_
 refine Qa<|Qs ?_
 have X3:=((Gr.refl w).trans G1)
 cases hm
 exact⟨_,_,rfl,Xj rfl (Qn rfl),rfl,X3⟩
theorem Qrp {p0 p1 r}(hm:Qg5 p0 p1=some r){w:World}:
 Calls Tryz.prog 155 [.agg (Zi.cs p0).toArray,.int .i64 p1,.func (.func 171) [].toArray [].toArray].toArray w fun e w'=>∃ v,e=.returned v∧(v=.tuple [.int .i64 r.1,.int .i64 r.2].toArray∧Gr w w'):=by
 unfold Qg5 at hm
 refine Xu 22 Tryz.func155 rfl rfl rfl<|qs 3 rfl<|qe rfl (Xp (cs:=Zi.cs p0) rfl rfl) ?_
 rintro _ w1 ⟨b1,rfl,i,c,G1⟩
 have z1:=G1.size
 have j:=c.lt
 refine qn 2 rfl<|Qa<|Qj<|qs 3 rfl<|qv rfl (Qu Ya rfl c rfl) ?_
 obtain⟨x1,d,hm⟩:=Qd hm
 refine qe rfl (eC Mp rfl (Mq d)) ?_
 rintro _ w2 ⟨rfl,G2⟩
 have z3:=G2.size
 refine qm rfl<|qd 2 rfl<|qm rfl<|qv rfl (Zp (a:=x1) (b:=0) rfl rfl)<|Qa ?_
 refine Zv hm rfl (fun c1 hm=>?_) (fun c1 hm=>?_)
 · refine qs 3 rfl<|qn 3 rfl<|Qa<|Qs ?_
   refine Zb ?_
   have X4:=(((Gr.refl w).trans G1).trans G2)
   cases hm
   exact⟨_,_,rfl,Xy rfl (Qn rfl) (Qn rfl),rfl,X4⟩
 refine qu<|Qj<|qs 3 rfl<|qm rfl ?_
 obtain⟨x2,f,hm⟩:=Qd hm
 refine qe rfl (eC Sk rfl (Sr f)) ?_
 rintro _ w3 ⟨rfl,G3⟩
 have z5:=G3.size
 refine qv rfl (Jj rfl)<|Qa<|Zw hm rfl (fun c2 hm=>?_) (fun c2 hm=>?_)
 · refine qs 2 rfl<|qn 2 rfl<|Qa<|Qs<|Zb ?_
   have X6:=((((Gr.refl w).trans G1).trans G2).trans G3)
   cases hm
   exact⟨_,_,rfl,Xy rfl (Qn rfl) (Qn rfl),rfl,X6⟩
 refine qu<|qs 7 rfl<|qn 2 rfl ?_
 have B7:=((c.gr G2).gr G3)
 refine qv rfl (Qu Ya rfl B7 rfl) ?_
 obtain⟨x3,g,hm⟩:=Qd hm
 refine qe rfl (Vk Qqc rfl rfl (Qrk g)) ?_
 rintro _ w4 ⟨rfl,G4⟩
 have z8:=G4.size
 obtain⟨x4,h,hm⟩:=Qd hm
 refine qv rfl (Nj (a:=p1) (b:=x3) rfl rfl h)<|qn 2 rfl<|Qa<|Qs ?_
 have X9:=(((((Gr.refl w).trans G1).trans G2).trans G3).trans G4)
 cases hm
 exact⟨_,_,rfl,Xy rfl (Qn rfl) (Qn rfl),rfl,X9⟩
theorem Ql2 {p0 p1 r}(hm:Qbj p0 p1=some r){w:World}:
 Calls Tryz.prog 86 [.agg (Zi.cs p0).toArray,.int .i64 p1].toArray w fun e w'=>∃ v,e=.returned v∧(v=.tuple [.int .i64 r.1,.int .i64 r.2].toArray∧Gr w w'):=by
 unfold Qbj at hm
 refine Xu 11 Tryz.func86 rfl rfl rfl<|qs 3 rfl<|qe rfl (Xp (cs:=Zi.cs p0) rfl rfl) ?_
 rintro _ w1 ⟨b1,rfl,c,a,G1⟩
 have z1:=G1.size
 have d:=a.lt
 refine qn 2 rfl<|qd 7 rfl<|qv rfl (Qu Ya rfl a rfl)<|qm rfl ?_
 obtain⟨x1,b,hm⟩:=Qd hm
 refine qe rfl (eC Qk4 rfl (Qrp b)) ?_
 rintro _ w2 ⟨rfl,G2⟩
 have z3:=G2.size
 refine qn 4 rfl<|Qa<|Qs ?_
 have X4:=(((Gr.refl w).trans G1).trans G2)
 cases hm
 exact⟨_,_,rfl,Xy rfl (Qn rfl) (Qn rfl),rfl,X4⟩
theorem Qrl {p0 r}(hm:Qg3 p0=some r){w:World}:
 Calls Tryz.prog 156 [.agg (Zi.cs p0).toArray].toArray w fun e w'=>∃ v,e=.returned v∧(v=.int .i64 r∧Gr w w'):=by
 unfold Qg3 at hm
 refine Xu 5 Tryz.func156 rfl rfl rfl<|qs 2 rfl<|qe rfl (Xp (cs:=Zi.cs p0) rfl rfl) ?_
 rintro _ w1 ⟨b1,rfl,b,a,G1⟩
 have z1:=G1.size
 have c:=a.lt
 refine qm rfl<|qd 3 rfl<|qv rfl (Qg Hw rfl)<|qv rfl (Ql (v:=.int .i64 p0.Word) Xm rfl a rfl)<|qm rfl ?_
 refine Qa<|Qs ?_
 have X3:=((Gr.refl w).trans G1)
 cases hm
 exact⟨_,_,rfl,Xj rfl (Qn rfl),rfl,X3⟩
theorem Qrq {p0 p1 r}(hm:Qg6 p0 p1=some r){w:World}:
 Calls Tryz.prog 155 [.agg (Zi.cs p0).toArray,.int .i64 p1,.func (.func 156) [].toArray [].toArray].toArray w fun e w'=>∃ v,e=.returned v∧(v=.tuple [.int .i64 r.1,.int .i64 r.2].toArray∧Gr w w'):=by
 unfold Qg6 at hm
 refine Xu 22 Tryz.func155 rfl rfl rfl<|qs 3 rfl<|qe rfl (Xp (cs:=Zi.cs p0) rfl rfl) ?_
 rintro _ w1 ⟨b1,rfl,i,c,G1⟩
 have z1:=G1.size
 have j:=c.lt
 refine qn 2 rfl<|Qa<|Qj<|qs 3 rfl<|qv rfl (Qu Ya rfl c rfl) ?_
 obtain⟨x1,d,hm⟩:=Qd hm
 refine qe rfl (eC Mp rfl (Mq d)) ?_
 rintro _ w2 ⟨rfl,G2⟩
 have z3:=G2.size
 refine qm rfl<|qd 2 rfl<|qm rfl<|qv rfl (Zp (a:=x1) (b:=0) rfl rfl)<|Qa ?_
 refine Zv hm rfl (fun c1 hm=>?_) (fun c1 hm=>?_)
 · refine qs 3 rfl<|qn 3 rfl<|Qa<|Qs ?_
   refine Zb ?_
   have X4:=(((Gr.refl w).trans G1).trans G2)
   cases hm
   exact⟨_,_,rfl,Xy rfl (Qn rfl) (Qn rfl),rfl,X4⟩
 refine qu<|Qj<|qs 3 rfl<|qm rfl ?_
 obtain⟨x2,f,hm⟩:=Qd hm
 refine qe rfl (eC Sk rfl (Sr f)) ?_
 rintro _ w3 ⟨rfl,G3⟩
 have z5:=G3.size
 refine qv rfl (Jj rfl)<|Qa<|Zw hm rfl (fun c2 hm=>?_) (fun c2 hm=>?_)
 · refine qs 2 rfl<|qn 2 rfl<|Qa<|Qs<|Zb ?_
   have X6:=((((Gr.refl w).trans G1).trans G2).trans G3)
   cases hm
   exact⟨_,_,rfl,Xy rfl (Qn rfl) (Qn rfl),rfl,X6⟩
 refine qu<|qs 7 rfl<|qn 2 rfl ?_
 have B7:=((c.gr G2).gr G3)
 refine qv rfl (Qu Ya rfl B7 rfl) ?_
 obtain⟨x3,g,hm⟩:=Qd hm
 refine qe rfl (Vk Qq8 rfl rfl (Qrl g)) ?_
 rintro _ w4 ⟨rfl,G4⟩
 have z8:=G4.size
 obtain⟨x4,h,hm⟩:=Qd hm
 refine qv rfl (Nj (a:=p1) (b:=x3) rfl rfl h)<|qn 2 rfl<|Qa<|Qs ?_
 have X9:=(((((Gr.refl w).trans G1).trans G2).trans G3).trans G4)
 cases hm
 exact⟨_,_,rfl,Xy rfl (Qn rfl) (Qn rfl),rfl,X9⟩
theorem Ql4 {p0 p1 r}(hm:Qbo p0 p1=some r){w:World}:
 Calls Tryz.prog 64 [.agg (Zi.cs p0).toArray,.int .i64 p1].toArray w fun e w'=>∃ v,e=.returned v∧(v=.tuple [.int .i64 r.1,.int .i64 r.2].toArray∧Gr w w'):=by
 unfold Qbo at hm
 refine Xu 11 Tryz.func64 rfl rfl rfl<|qs 3 rfl<|qe rfl (Xp (cs:=Zi.cs p0) rfl rfl) ?_
 rintro _ w1 ⟨b1,rfl,c,a,G1⟩
 have z1:=G1.size
 have d:=a.lt
 refine qn 2 rfl<|qd 7 rfl<|qv rfl (Qu Ya rfl a rfl)<|qm rfl ?_
 obtain⟨x1,b,hm⟩:=Qd hm
 refine qe rfl (eC Qk4 rfl (Qrq b)) ?_
 rintro _ w2 ⟨rfl,G2⟩
 have z3:=G2.size
 refine qn 4 rfl<|Qa<|Qs ?_
 have X4:=(((Gr.refl w).trans G1).trans G2)
 cases hm
 exact⟨_,_,rfl,Xy rfl (Qn rfl) (Qn rfl),rfl,X4⟩
theorem Qri {p0 p1 r}(hm:Qfz p0 p1=some r){w:World}:
 Calls Tryz.prog 87 [.agg (Zi.cs p0).toArray,.int .i64 p1].toArray w fun e w'=>∃ v,e=.returned v∧(∃ ur0_s zr0_s gr0_s,v=.tuple [ur0_s,.int .i64 r.2].toArray∧Qe w' zr0_s gr0_s 3 1 ur0_s (r.1.map ic)∧Xk (zr0_s=0∨w.heap.size≤gr0_s)∧Gr w w'):=by
 unfold Qfz at hm
 refine Xu 36 Tryz.func87 rfl rfl rfl<|qs 3 rfl<|qe rfl (Xp (cs:=Zi.cs p0) rfl rfl) ?_
 rintro _ w1 ⟨b1,rfl,C,d,G1⟩
 have z1:=G1.size
 have F:=d.lt
 refine qn 2 rfl<|qd 8 rfl<|qv rfl (Qu Ya rfl d rfl)<|qm rfl ?_
 obtain⟨x1,j,hm⟩:=Qd hm
 refine qe rfl (eC Qky rfl (Ql2 j)) ?_
 rintro _ w2 ⟨rfl,G2⟩
 have z3:=G2.size
 refine qn 5 rfl<|Qa<|Qj ?_
 refine qs 2 rfl<|qm rfl<|qv rfl (Zp (a:=x1.2) (b:=0) rfl rfl)<|Qa<|Zv hm rfl (fun c1 hm=>?_) (fun c1 hm=>?_)
 · refine qs 3 rfl<|qn 3 rfl<|Qa<|Qs ?_
   refine Zb ?_
   have X4:=(((Gr.refl w).trans G1).trans G2)
   cases hm
   exact⟨_,_,rfl,Xy rfl (Qn rfl) (Qn rfl),(.slice none 0 0),0,0,rfl,(Za _ 0 3 1),⟨.inl rfl⟩,X4⟩
 refine qu<|qs 3 rfl<|qm rfl<|qe rfl (Ko [x1.1] ic Rb rfl rfl (Ks rfl) rfl rfl rfl) ?_
 rintro n w3 ⟨g,D,f,G3⟩
 have z5:=G3.size
 have G:=f.lth
 refine qm rfl<|Qa<|Qj<|qs 10 rfl<|qn 2 rfl ?_
 refine qv rfl (Zy (k:=.i64) (a:=x1.1) (b:=1) rfl rfl)<|qv rfl (Qg Pd rfl) ?_
 have B7:=((d.gr G2).gr G3)
 refine qv rfl (Ql (v:=.int .i64 p0.Epoch) Xm rfl B7 rfl)<|qv rfl (Wj (k:=.i64) (a:=Qp (x1.1+1)) (b:=p0.Epoch) rfl rfl)<|qv rfl (Qg Bi rfl)<|qv rfl (Ql (v:=.int .i64 p0.Early) Xm rfl B7 rfl)<|qv rfl (Ys (k:=.i64) (a:=Qp ((Qp (x1.1+1))*p0.Epoch)) (b:=p0.Early) rfl rfl)<|qv rfl (Vd (a:=p1) (b:=Qp ((Qp ((Qp (x1.1+1))*p0.Epoch))-p0.Early)) rfl rfl)<|Qa ?_
 refine Kg hm rfl (fun c2 hm=>?_) (fun c2 hm=>?_)
 · refine qu<|qs 3 rfl<|qn 3 rfl ?_
   refine Qa<|Qs ?_
   have o:=((((Gr.refl w).trans G1).trans G2).trans G3)
   cases hm
   exact⟨_,_,rfl,Xy rfl (Qn rfl) (Qn rfl),n,1,g,rfl,f,⟨(.inr Qb)⟩,o⟩
 refine qg 6 rfl<|qn 2 rfl<|qv rfl (Zy (k:=.i64) (a:=x1.1) (b:=1) rfl rfl)<|qe rfl (Ko [Qp (x1.1+1)] ic Rb rfl rfl (Ks rfl) rfl rfl rfl) ?_
 rintro H w4 ⟨I,E,h,G4⟩
 have z8:=G4.size
 have J:=h.lth
 have p:=(f.gr G4)
 obtain⟨l2,q,hm⟩:=Qd hm
 refine qe rfl (Wo (l:=[x1.1]) (m:=[Qp (x1.1+1)]) (c:=ic) Qog rfl rfl p (Qe.rd h) q (by decide)) ?_
 rintro s w5 ⟨t,u,y,i,K,z⟩
 have L:=i.size
 refine qm rfl<|qd 3 rfl<|qn 3 rfl ?_
 refine Qa<|Qs ?_
 have B:=((((((Gr.refl w).trans G1).trans G2).trans G3).trans G4).ka i (Qc ((.inr Qb):1=0∨w.heap.size≤g)))
 cases hm
 exact⟨_,_,rfl,Xy rfl (Qn rfl) (Qn rfl),s,t,u,rfl,y,⟨(Yp (A:=(fun x=>w.heap.size≤x)) z (.inr Qb))⟩,B⟩
theorem Ql7 {p0 r}(hm:Qc1 p0=some r){w:World}:
 Calls Tryz.prog 83 [.int .i64 p0].toArray w fun e w'=>∃ v,e=.returned v∧(v=.bool r∧Gr w w'):=by
 unfold Qc1 at hm
 refine Xu 9 Tryz.func83 rfl rfl rfl<|qs 1 rfl<|qm rfl<|qd 7 rfl ?_
 refine qm rfl<|qv rfl (Vd (a:=p0) (b:=(-1099511627776)) rfl rfl)<|Zm hm rfl (Qw rfl) (fun c1 hm=>?_) (fun c1 hm=>?_)
 · refine qm rfl<|qv rfl (Dp (a:=p0) (b:=2199023255552) rfl rfl)<|qn 2 rfl<|Qa<|Qs ?_
   cases hm
   exact⟨_,_,rfl,Xj rfl (Qn rfl),rfl,(Gr.refl w)⟩
 refine qn 4 rfl<|Qa<|Qs ?_
 cases hm
 exact⟨_,_,rfl,Xj rfl (Qn rfl),rfl,(Gr.refl w)⟩
theorem Qla {p0 p1 r}(hm:Qc7 p0 p1=some r){w:World}:
 Calls Tryz.prog 170 [.agg (Zi.cs p0).toArray,.int .i64 p1].toArray w fun e w'=>∃ v,e=.returned v∧(v=.tuple [.int .i64 r.1,.int .i64 r.2].toArray∧Gr w w'):=by
 unfold Qc7 at hm
 refine Xu 18 Tryz.func170 rfl rfl rfl<|qs 3 rfl<|qe rfl (Xp (cs:=Zi.cs p0) rfl rfl) ?_
 rintro _ w1 ⟨b1,rfl,d,c,G1⟩
 have z1:=G1.size
 have f:=c.lt
 refine qn 2 rfl<|Qa<|Qj<|dw [([])] [] (.leaf [(0,10),(1,10),(2,10),(3,10),(4,10),(5,10),(6,10),(7,10),(8,10),(9,10),(10,10),(11,10),(12,10),(13,10)]) ?_
 intro w2 G2 g
 refine Xo<|dm 0 rfl rfl<|dh 0 rfl rfl (fun w hS=>Qg De rfl) ?_
 have B3:=(c.gr G2)
 refine dh 0 rfl rfl (fun w hS=>Ql (v:=.int .i64 p0.Drift) Xm rfl (Bx.kp B3 hS) rfl)<|dh 0 rfl rfl (fun w hS=>Ys (k:=.i64) (a:=p1) (b:=p0.Drift) rfl rfl)<|dh 0 rfl rfl (fun w hS=>Qg Lc rfl)<|dh 0 rfl rfl (fun w hS=>Ql (v:=.int .i64 p0.Delay) Xm rfl (Bx.kp B3 hS) rfl)<|dh 0 rfl rfl (fun w hS=>Ys (k:=.i64) (a:=Qp (p1-p0.Drift)) (b:=p0.Delay) rfl rfl)<|dh 0 rfl rfl (fun w hS=>Qnz rfl rfl)<|dm 0 rfl rfl ?_
 refine dh 0 rfl rfl (fun w hS=>Qg De rfl)<|dh 0 rfl rfl (fun w hS=>Ql (v:=.int .i64 p0.Drift) Xm rfl (Bx.kp B3 hS) rfl)<|dh 0 rfl rfl (fun w hS=>Zy (k:=.i64) (a:=p1) (b:=p0.Drift) rfl rfl)<|dm 0 rfl rfl<|dm 0 rfl rfl<|Qa<|Qs ?_
 have X4:=(((Gr.refl w).trans G1).trans G2)
 cases hm
 exact⟨_,_,rfl,Xy rfl (Qn rfl) (Qn rfl),rfl,X4⟩
theorem Ql8 {p0 p1 p2 r}(hm:Qc3 p0 p1 p2=some r){w:World}:
 Calls Tryz.prog 84 [.agg (Zi.cs p0).toArray,.int .i64 p1,bv p2].toArray w fun e w'=>∃ v,e=.returned v∧(v=.tuple [.int .i64 r.1,.bool r.2].toArray∧Gr w w'):=by
 unfold Qc3 at hm
 refine Xu 39 Tryz.func84 rfl rfl rfl<|qs 3 rfl<|qe rfl (Xp (cs:=Zi.cs p0) rfl rfl) ?_
 rintro _ w1 ⟨b1,rfl,j,c,G1⟩
 have z1:=G1.size
 have l:=c.lt
 refine qn 2 rfl<|qd 8 rfl<|qv rfl (Qu Ya rfl c rfl)<|qm rfl ?_
 obtain⟨x1,d,hm⟩:=Qd hm
 refine qe rfl (eC Qk6 rfl (Qla d)) ?_
 rintro _ w2 ⟨rfl,G2⟩
 have z3:=G2.size
 refine qn 5 rfl<|Qa<|Qj ?_
 refine qs 2 rfl<|qm rfl<|qv rfl (Jb (a:=x1.2) (b:=0) rfl rfl)<|Qa<|Zv hm rfl (fun c1 hm=>?_) (fun c1 hm=>?_)
 · refine qs 2 rfl<|qn 2 rfl<|Qa<|Qs<|Zb ?_
   have X4:=(((Gr.refl w).trans G1).trans G2)
   cases hm
   exact⟨_,_,rfl,Xy rfl (Qn rfl) (Qn rfl),rfl,X4⟩
 refine qu<|qs 5 rfl<|qm rfl<|qv rfl (Qg Hw rfl) ?_
 have B5:=(c.gr G2)
 refine qv rfl (Ql (v:=.int .i64 p0.Word) Xm rfl B5 rfl) ?_
 obtain⟨x2,f,hm⟩:=Qd hm
 refine qv rfl (Nj (a:=x1.1) (b:=p0.Word) rfl rfl f)<|qm rfl<|qd 10 rfl<|qn 2 rfl ?_
 refine qv rfl (Oj Po rfl)<|qm rfl ?_
 obtain⟨x3,g,hm⟩:=Qd hm
 refine qv rfl (Db (a:=x2) (b:=4) rfl rfl g)<|qv rfl (Ys (k:=.i64) (a:=Xr p2) (b:=x3) rfl rfl)<|qv rfl (Zy (k:=.i64) (a:=Qp ((Xr p2)-x3)) (b:=4) rfl rfl) ?_
 obtain⟨x4,h,hm⟩:=Qd hm
 refine qv rfl (Db (a:=Qp ((Qp ((Xr p2)-x3))+4)) (b:=4) rfl rfl h)<|qv rfl (Zy (k:=.i64) (a:=x2) (b:=x4) rfl rfl)<|qm rfl<|Qa<|Qj<|dw [([])] [] (.leaf [(0,10),(1,10),(2,10),(3,10),(4,10),(5,10),(6,10),(7,10),(8,10)]) ?_
 intro w3 G3 m
 refine Xo<|dm 0 rfl rfl<|dm 0 rfl rfl<|dm 0 rfl rfl<|dh 0 rfl rfl (fun w hS=>Qg Hw rfl) ?_
 have B6:=(B5.gr G3)
 refine dh 0 rfl rfl (fun w hS=>Ql (v:=.int .i64 p0.Word) Xm rfl (Bx.kp B6 hS) rfl) ?_
 obtain⟨x5,i,hm⟩:=Qd hm
 refine dh 0 rfl rfl (fun w hS=>Nj (a:=x1.2) (b:=p0.Word) rfl rfl i)<|dh 0 rfl rfl (fun w hS=>Dp (a:=Qp (x2+x4)) (b:=x5) rfl rfl)<|dm 0 rfl rfl<|dm 0 rfl rfl<|Qa<|Qs ?_
 have X7:=((((Gr.refl w).trans G1).trans G2).trans G3)
 cases hm
 exact⟨_,_,rfl,Xy rfl (Qn rfl) (Qn rfl),rfl,X7⟩
theorem Qbq {p0 p1 p2 r}(hm:Mv p0 p1 p2=some r){w:World}:
 Calls Tryz.prog 37 [.agg (Zi.cs p0).toArray,.int .i64 p1,bv p2].toArray w fun e w'=>∃ v,e=.returned v∧(v=.tuple [.int .i64 r.1,.int .i64 r.2].toArray∧Gr w w'):=by
 unfold Mv at hm
 refine Xu 33 Tryz.func37 rfl rfl rfl<|qs 3 rfl<|qe rfl (Xp (cs:=Zi.cs p0) rfl rfl) ?_
 rintro _ w1 ⟨b1,rfl,j,c,G1⟩
 have z1:=G1.size
 have k:=c.lt
 refine qn 2 rfl<|Qa<|Qj<|qs 3 rfl<|qv rfl (Qu Ya rfl c rfl) ?_
 obtain⟨x1,d,hm⟩:=Qd hm
 refine qe rfl (eC Mp rfl (Mq d)) ?_
 rintro _ w2 ⟨rfl,G2⟩
 have z3:=G2.size
 refine qm rfl<|qd 2 rfl<|qm rfl<|qv rfl (Zp (a:=x1) (b:=0) rfl rfl)<|Qa ?_
 refine Zv hm rfl (fun c1 hm=>?_) (fun c1 hm=>?_)
 · refine qs 3 rfl<|qn 3 rfl<|Qa<|Qs ?_
   refine Zb ?_
   have X4:=(((Gr.refl w).trans G1).trans G2)
   cases hm
   exact⟨_,_,rfl,Xy rfl (Qn rfl) (Qn rfl),rfl,X4⟩
 refine qu<|Qj ?_
 have X5:=(((Gr.refl w).trans G1).trans G2)
 refine qj (β:=Bool) (rg 16 7) (fun a2=>[(22,.bool a2)]) (fun a2 wr=>(Qbp p0 p1 p2 a2=some r)∧Kz [] w2 wr) ?_ ?_
 · refine qg 7 rfl<|qm rfl ?_
   obtain⟨x4,f,hm⟩:=Qd hm
   refine qe rfl (eC Qkv rfl (Ql7 f)) ?_
   rintro _ w5 ⟨rfl,G5⟩
   have l:=G5.size
   refine qv rfl (Jj rfl)<|Pw hm rfl (Qw rfl) (fun c4 hm=>?_) (fun c4 hm=>?_)
   · refine qn 3 rfl<|Qi ?_
     exact⟨rfl,true,Qh,hm,(Xi.gr G5)⟩
   refine qm rfl<|qv rfl (Qnw (p:=p2) (q:=3#8) rfl rfl)<|qm rfl<|Qi ?_
   exact⟨rfl,(decide (3#8<p2)),Qh,hm,(Xi.gr G5)⟩
 clear hm;rintro a2 w3 ⟨hm,K3⟩
 have z6:=K3.size
 unfold Qbp at hm
 refine Zw hm rfl (fun c2 hm=>?_) (fun c2 hm=>?_)
 · refine qs 2 rfl<|qn 2 rfl<|Qa<|Qs<|Zb ?_
   have X7:=(X5.kz K3)
   cases hm
   exact⟨_,_,rfl,Xy rfl (Qn rfl) (Qn rfl),rfl,X7⟩
 refine qu<|qs 9 rfl ?_
 have B8:=((c.gr G2).kz K3)
 refine qv rfl (Qu Ya rfl B8 rfl)<|qn 2 rfl ?_
 obtain⟨x3,g,hm⟩:=Qd hm
 refine qe rfl (eC Qkw rfl (Ql8 g)) ?_
 rintro _ w4 ⟨rfl,G4⟩
 have z9:=G4.size
 refine qn 5 rfl<|Qa<|Qj ?_
 refine qs 2 rfl<|qm rfl<|qv rfl (Jj rfl)<|Qa<|Zw hm rfl (fun c3 hm=>?_) (fun c3 hm=>?_)
 · refine qs 2 rfl<|qn 2 rfl<|Qa<|Qs<|Zb ?_
   have h:=((X5.kz K3).trans G4)
   cases hm
   exact⟨_,_,rfl,Xy rfl (Qn rfl) (Qn rfl),rfl,h⟩
 refine qu<|qs 3 rfl<|qn 3 rfl ?_
 refine Qa<|Qs ?_
 have i:=((X5.kz K3).trans G4)
 cases hm
 exact⟨_,_,rfl,Xy rfl (Qn rfl) (Qn rfl),rfl,i⟩
theorem Qlb {p0 p1 p2 r}(hm:Qc8 p0 p1 p2=some r){w:World}:
 Calls Tryz.prog 85 [.agg (Zi.cs p0).toArray,.int .i64 p1,.int .i64 p2].toArray w fun e w'=>∃ v,e=.returned v∧(v=.bool r∧Gr w w'):=by
 unfold Qc8 at hm
 refine Xu 36 Tryz.func85 rfl rfl rfl<|qs 2 rfl<|qe rfl (Xp (cs:=Zi.cs p0) rfl rfl) ?_
 rintro _ w1 ⟨b1,rfl,g,c,G1⟩
 have z1:=G1.size
 have h:=c.lt
 refine qm rfl<|qd 8 rfl<|qv rfl (Qu Ya rfl c rfl)<|qm rfl ?_
 obtain⟨x1,d,hm⟩:=Qd hm
 refine qe rfl (eC Qk6 rfl (Qla d)) ?_
 rintro _ w2 ⟨rfl,G2⟩
 have z3:=G2.size
 refine qn 5 rfl<|Qa<|Qj ?_
 refine qg 22 rfl<|qm rfl<|qv rfl (Vd (a:=x1.2) (b:=0) rfl rfl)<|Kr hm rfl (Qw rfl) (fun c1 hm=>?_) (fun c1 hm=>?_)
 · refine qn 7 rfl ?_
   refine qn 7 rfl ?_
   refine qn 5 rfl<|Qa<|Qs ?_
   have X7:=(((Gr.refl w).trans G1).trans G2)
   cases hm
   exact⟨_,_,rfl,Xj rfl (Qn rfl),rfl,X7⟩
 refine qm rfl<|qv rfl (Qg Pd rfl) ?_
 have B4:=(c.gr G2)
 refine qv rfl (Ql (v:=.int .i64 p0.Epoch) Xm rfl B4 rfl) ?_
 obtain⟨x2,f,hm⟩:=Qd hm
 refine qv rfl (Nj (a:=x1.1) (b:=p0.Epoch) rfl rfl f)<|qm rfl<|qv rfl (Dp (a:=x2) (b:=p2) rfl rfl)<|qm rfl<|Kr hm rfl (Qw rfl) (fun c2 hm=>?_) (fun c2 hm=>?_)
 · refine qn 7 rfl ?_
   refine qn 4 rfl<|Qa<|Qs ?_
   have X6:=(((Gr.refl w).trans G1).trans G2)
   cases hm
   exact⟨_,_,rfl,Xj rfl (Qn rfl),rfl,X6⟩
 refine qn 2 rfl<|qv rfl (Qg Pd rfl)<|qv rfl (Ql (v:=.int .i64 p0.Epoch) Xm rfl B4 rfl)<|qv rfl (Wj (k:=.i64) (a:=p2) (b:=p0.Epoch) rfl rfl)<|qv rfl (Qg Bi rfl)<|qv rfl (Ql (v:=.int .i64 p0.Early) Xm rfl B4 rfl) ?_
 refine qv rfl (Ys (k:=.i64) (a:=Qp (p2*p0.Epoch)) (b:=p0.Early) rfl rfl)<|qv rfl (Vd (a:=x1.2) (b:=Qp ((Qp (p2*p0.Epoch))-p0.Early)) rfl rfl)<|qn 2 rfl<|Qa<|Qs ?_
 have X5:=(((Gr.refl w).trans G1).trans G2)
 cases hm
 exact⟨_,_,rfl,Xj rfl (Qn rfl),rfl,X5⟩
theorem Qbl {p0 p1 p2 r}(hm:Mt p0 p1 p2=some r){w:World}:
 Calls Tryz.prog 38 [.agg (Zi.cs p0).toArray,.int .i64 p1,.int .i64 p2].toArray w fun e w'=>∃ v,e=.returned v∧(v=.tuple [.bool r.1,.int .i64 r.2].toArray∧Gr w w'):=by
 unfold Mt at hm
 refine Xu 26 Tryz.func38 rfl rfl rfl<|qs 3 rfl<|qe rfl (Xp (cs:=Zi.cs p0) rfl rfl) ?_
 rintro _ w1 ⟨b1,rfl,j,c,G1⟩
 have z1:=G1.size
 have k:=c.lt
 refine qn 2 rfl<|Qa<|Qj<|qs 3 rfl<|qv rfl (Qu Ya rfl c rfl) ?_
 obtain⟨x1,d,hm⟩:=Qd hm
 refine qe rfl (eC Mp rfl (Mq d)) ?_
 rintro _ w2 ⟨rfl,G2⟩
 have z3:=G2.size
 refine qm rfl<|qd 2 rfl<|qm rfl<|qv rfl (Zp (a:=x1) (b:=0) rfl rfl)<|Qa ?_
 refine Zv hm rfl (fun c1 hm=>?_) (fun c1 hm=>?_)
 · refine qs 3 rfl<|qn 3 rfl<|Qa<|Qs ?_
   refine Zb ?_
   have X4:=(((Gr.refl w).trans G1).trans G2)
   cases hm
   exact⟨_,_,rfl,Xy rfl (Qn rfl) (Qn rfl),rfl,X4⟩
 refine qu<|Qj ?_
 have X5:=(((Gr.refl w).trans G1).trans G2)
 refine qj (β:=Bool) (rg 14 8) (fun a2=>[(21,.bool a2)]) (fun a2 wr=>(Qbk p0 p1 p2 a2=some r)∧Kz [] w2 wr) ?_ ?_
 · refine qg 8 rfl<|qm rfl ?_
   obtain⟨x4,f,hm⟩:=Qd hm
   refine qe rfl (eC Qkv rfl (Ql7 f)) ?_
   rintro _ w5 ⟨rfl,G5⟩
   have l:=G5.size
   refine qv rfl (Jj rfl)<|Pw hm rfl (Qw rfl) (fun c3 hm=>?_) (fun c3 hm=>?_)
   · refine qn 4 rfl<|Qi ?_
     exact⟨rfl,true,Qh,hm,(Xi.gr G5)⟩
   refine qm rfl ?_
   obtain⟨x5,g,hm⟩:=Qd hm
   refine qe rfl (eC Sk rfl (Sr g)) ?_
   rintro _ w6 ⟨rfl,G6⟩
   have m:=G6.size
   refine qv rfl (Jj rfl)<|qm rfl<|Qi ?_
   exact⟨rfl,(!x5),Qh,hm,((Xi.gr G5).gr G6)⟩
 clear hm;rintro a2 w3 ⟨hm,K3⟩
 have z6:=K3.size
 unfold Qbk at hm
 refine Zw hm rfl (fun c2 hm=>?_) (fun c2 hm=>?_)
 · refine qs 2 rfl<|qn 2 rfl<|Qa<|Qs<|Zb ?_
   have X7:=(X5.kz K3)
   cases hm
   exact⟨_,_,rfl,Xy rfl (Qn rfl) (Qn rfl),rfl,X7⟩
 refine qu<|qs 6 rfl ?_
 have B8:=((c.gr G2).kz K3)
 refine qv rfl (Qu Ya rfl B8 rfl)<|qn 2 rfl ?_
 obtain⟨x3,h,hm⟩:=Qd hm
 refine qe rfl (eC Qkx rfl (Qlb h)) ?_
 rintro _ w4 ⟨rfl,G4⟩
 have z9:=G4.size
 refine qn 2 rfl<|Qa<|Qs ?_
 have i:=((X5.kz K3).trans G4)
 cases hm
 exact⟨_,_,rfl,Xy rfl (Qn rfl) (Qn rfl),rfl,i⟩
theorem Ar {p0 p1 r}(hm:Rz p0 p1=some r){w:World}:
 Calls Tryz.prog 17 [kv p0,.int .i64 p1].toArray w fun e w'=>∃ v,e=.returned v∧(v=kv r∧Gr w w'):=by
 unfold Rz at hm
 refine Xu 9 Tryz.func17 rfl rfl rfl<|qs 2 rfl<|qe rfl (Xp (cs:=kb p0) rfl rfl) ?_
 rintro _ w1 ⟨b1,rfl,d,a,G1⟩
 have z1:=G1.size
 have g:=a.lt
 refine qe rfl (Qz (cs:=kb k0) Jq rfl) ?_
 rintro _ w2 ⟨b2,rfl,f,b,G2⟩
 have z3:=G2.size
 have h:=b.lt
 refine qd 5 rfl ?_
 have B5:=(a.gr G2)
 refine qv rfl (Qu Qy rfl B5 rfl)<|qm rfl<|qv rfl (Yr Yw rfl)<|qe rfl (eC Wn rfl (Wm p0 (Xr 50#8) (Wf _) (Wc _) (wd p1) _)) ?_
 rintro _ w3 ⟨rfl,G3⟩
 have z6:=G3.size
 have B7:=(b.gr G3)
 refine qe rfl (Qr Qy rfl rfl rfl B7 rfl rfl) ?_
 rintro _ w4 ⟨c,M4⟩
 have z8:=M4.size
 refine Qa<|Qs ?_
 have X9:=(((((Gr.refl w).trans G1).trans G2).trans G3).md M4)
 cases hm
 exact⟨_,_,rfl,Xj rfl (Zf Qy rfl c rfl),rfl,X9⟩
theorem Qro {p0 p1 p2 p3 p4 vp2 zp2 gp2 op2 r}(hm:My p0 p1 p2 p3 p4=some r){w:World}(q:Rd w zp2 gp2 op2 1 vp2 (p2.map ic)):
 Calls Tryz.prog 119 [kv p0,.agg (Xn.cs p1).toArray,vp2,kv p3,wv p4].toArray w fun e w'=>∃ v,e=.returned v∧(∃ ur0_0 zr0_0 gr0_0 ur0_2 zr0_2 gr0_2,v=.tuple [.agg (Qq.cs r.1 ur0_0 ur0_2).toArray,.int .i64 r.2].toArray∧Qe w' zr0_0 gr0_0 195 18 ur0_0 (r.1.Items.map Zc.cs)∧Xk (zr0_0=0∨w.heap.size≤gr0_0)∧Qe w' zr0_2 gr0_2 65 2 ur0_2 (r.1.Points.map Qx.cs)∧Xk (zr0_2=0∨w.heap.size≤gr0_2)∧Xk (zr0_2=0∨zr0_0=0∨gr0_2≠gr0_0)∧Gr w w'):=by
 have aa:=q.lth
 unfold My at hm
 refine Xu 31 Tryz.func119 rfl rfl rfl<|qs 5 rfl<|qe rfl (Xp (cs:=kb p0) rfl rfl) ?_
 rintro _ w1 ⟨b1,rfl,T,s,G1⟩
 have z2:=G1.size
 have ab:=s.lt
 refine qe rfl (Xp (cs:=Xn.cs p1) rfl rfl) ?_
 rintro _ w2 ⟨b2,rfl,U,t,G2⟩
 have z4:=G2.size
 have ac:=t.lt
 refine qe rfl (Xp (cs:=kb p3) rfl rfl) ?_
 rintro _ w3 ⟨b3,rfl,V,u,G3⟩
 have z6:=G3.size
 have ad:=u.lt
 refine qe rfl (Qz (cs:=Qq.cs (Qq.mk [] 0#64 [] k0 k0) (.slice none 0 0) (.slice none 0 0)) Gl rfl) ?_
 rintro _ w4 ⟨b4,rfl,W,p,G4⟩
 have z8:=G4.size
 have ae:=p.lt
 refine qm rfl<|qd 8 rfl ?_
 have Y1:=Gr.trans G3 G4
 have y:=(t.gr Y1)
 refine qv rfl (Qu Jr rfl y rfl)<|qm rfl ?_
 have Y2:=Gr.trans (Gr.trans G1 G2) Y1
 have F:=(q.gr Y2)
 obtain⟨x1,G,hm⟩:=Qd hm
 refine qe rfl (eC Qqh rfl (Qpa G F)) ?_
 rintro _ w5 ⟨z,B,C,rfl,f,D,G5⟩
 have af:=G5.size
 have X:=f.lth
 refine qn 5 rfl<|Qa<|Qj ?_
 refine qs 2 rfl<|qm rfl<|qv rfl (Zp (a:=x1.2) (b:=0) rfl rfl)<|Qa<|Zv hm rfl (fun c1 hm=>?_) (fun c1 hm=>?_)
 · refine qs 4 rfl<|qv rfl (Zk (cs:=Qq.cs (Qq.mk [] 0#64 [] k0 k0) (.slice none 0 0) (.slice none 0 0)) Hs rfl (by kernel_rfl))<|qm rfl ?_
   have H:=(p.gr G5)
   refine qe rfl (Qr Jw rfl rfl (Qq.cs_ones _ _ _ rfl rfl) H rfl rfl) ?_
   rintro _ w6 ⟨I,M6⟩
   have ag:=M6.size
   refine qm rfl<|qb ?_
   have J:=((((Gr.refl w).trans Y2).trans G5).md M6)
   cases hm
   exact⟨_,_,rfl,Xy rfl (Zf Jw rfl I rfl) (Qn rfl),(.slice none 0 0),0,0,(.slice none 0 0),0,0,rfl,(Za _ 0 195 18),⟨.inl rfl⟩,(Za _ 0 65 2),⟨.inl rfl⟩,⟨(.inl rfl)⟩,J⟩
 refine qu<|qs 9 rfl ?_
 have Y3:=Gr.trans (Gr.trans G2 Y1) G5
 have K:=(s.gr Y3)
 refine qv rfl (Qu Qy rfl K rfl) ?_
 have L:=(y.gr G5)
 refine qv rfl (Qu Jr rfl L rfl)<|qm rfl ?_
 have Y4:=Gr.trans G4 G5
 have M:=(u.gr Y4)
 refine qv rfl (Qu Qy rfl M rfl) ?_
 obtain⟨x2,N,hm⟩:=Qd hm
 refine qe rfl (eC Qqi rfl (Qpd N (Qe.rd f))) ?_
 rintro _ w7 ⟨i,j,k,l,m,n,rfl,c,g,d,h,E,G7⟩
 have ah:=G7.size
 have Y:=c.lth
 have Z:=d.lth
 refine qn 2 rfl ?_
 have O:=((p.gr G5).gr G7)
 refine qe rfl (Qr Jw rfl rfl (Qq.cs_ones _ _ _ (Qe.oneB c) (Qe.oneB d)) O rfl rfl) ?_
 rintro _ w8 ⟨P,M8⟩
 have ai:=M8.size
 refine qm rfl<|Qa<|Qs ?_
 have Q:=(c.md M8 (Qt g))
 have R:=(d.md M8 (Qt h))
 have S:=(((((Gr.refl w).trans Y2).trans G5).trans G7).md M8)
 cases hm
 exact⟨_,_,rfl,Xy rfl (Zf Jw rfl P rfl) (Qn rfl),i,j,k,l,m,n,rfl,Q,⟨(Qk (A:=(fun x=>w.heap.size≤x)) g)⟩,R,⟨(Qk (A:=(fun x=>w.heap.size≤x)) h)⟩,⟨(Qc E.o)⟩,S⟩
theorem Qrm {p0 p1 p2 p3 vp3 zp3 gp3 op3 r}(hm:Ap p0 p1 p2 p3=some r){w:World}(an:Rd w zp3 gp3 op3 1 vp3 (p3.map ic)):
 Calls Tryz.prog 21 [kv p0,.agg (Xn.cs p1).toArray,.int .i64 p2,vp3].toArray w fun e w'=>∃ v,e=.returned v∧(∃ ur0_0 zr0_0 gr0_0 ur0_2 zr0_2 gr0_2,v=.tuple [.agg (Qq.cs r.1 ur0_0 ur0_2).toArray,.int .i64 r.2].toArray∧Qe w' zr0_0 gr0_0 195 18 ur0_0 (r.1.Items.map Zc.cs)∧Xk (zr0_0=0∨w.heap.size≤gr0_0)∧Qe w' zr0_2 gr0_2 65 2 ur0_2 (r.1.Points.map Qx.cs)∧Xk (zr0_2=0∨w.heap.size≤gr0_2)∧Xk (zr0_2=0∨zr0_0=0∨gr0_2≠gr0_0)∧Gr w w'):=by
 have t:=an.lth
 unfold Ap at hm
 refine Xu 38 Tryz.func21 rfl rfl rfl<|qs 4 rfl<|qe rfl (Xp (cs:=kb p0) rfl rfl) ?_
 rintro _ w1 ⟨b1,rfl,cc,ao,G1⟩
 have z2:=G1.size
 have cC:=ao.lt
 refine qe rfl (Xp (cs:=Xn.cs p1) rfl rfl) ?_
 rintro _ w2 ⟨b2,rfl,cd,aD,G2⟩
 have z4:=G2.size
 have cD:=aD.lt
 refine qe rfl (Qz (cs:=Qq.cs (Qq.mk [] 0#64 [] k0 k0) (.slice none 0 0) (.slice none 0 0)) Gl rfl) ?_
 rintro _ w3 ⟨b3,rfl,ce,H,G3⟩
 have z6:=G3.size
 have cE:=H.lt
 refine qm rfl<|qd 8 rfl ?_
 have B8:=(aD.gr G3)
 refine qv rfl (Qu Jr rfl B8 rfl)<|Lr 33 Tryz.func51 rfl rfl rfl Qba rfl rfl rfl rfl rfl<|qs 3 rfl<|qe rfl (Xp (cs:=Xn.cs p1) rfl rfl) ?_
 rintro _ w4 ⟨b4,rfl,cf,ap,G4⟩
 have z9:=G4.size
 have cg:=ap.lt
 refine qe rfl (Qz (cs:=[.nilFunc,.nilFunc,.nilFunc,.nilFunc]) Vt rfl) ?_
 rintro _ w5 ⟨b5,rfl,ch,ac,G5⟩
 have cF:=G5.size
 have ci:=ac.lt
 refine qm rfl<|qd 3 rfl<|qv rfl (Zk (cs:=[.func (.func 116) #[] #[],.func (.func 117) #[] #[],.func (.func 118) #[] #[],.func (.func 119) #[] #[]]) Hr rfl rfl)<|qe rfl (Qz (cs:=[.nilFunc,.nilFunc,.nilFunc,.nilFunc]) Vt rfl) ?_
 rintro _ w6 ⟨b6,rfl,cj,aE,G6⟩
 have cG:=G6.size
 have ck:=aE.lt
 refine qe rfl (Qr Zn rfl rfl rfl aE rfl rfl) ?_
 rintro _ w7 ⟨aq,M7⟩
 have cH:=M7.size
 refine qd 8 rfl<|qv rfl (Zk (cs:=[.nilFunc,.nilFunc,.nilFunc,.nilFunc]) Hr rfl rfl)<|qv rfl (Jm (vs:=[.func (.func 116) #[] #[],.func (.func 117) #[] #[],.func (.func 118) #[] #[],.func (.func 119) #[] #[]]) Zn rfl aq rfl rfl)<|qv rfl (Jm (vs:=[.func (.func 116) #[] #[],.func (.func 117) #[] #[],.func (.func 118) #[] #[],.func (.func 119) #[] #[]]) Zn rfl aq rfl rfl)<|qv rfl (Jm (vs:=[.func (.func 116) #[] #[],.func (.func 117) #[] #[],.func (.func 118) #[] #[],.func (.func 119) #[] #[]]) Zn rfl aq rfl rfl) ?_
 refine qv rfl (Zk (cs:=[.func (.func 99) #[] #[],.func (.func 120) #[] #[],.func (.func 121) #[] #[],.func (.func 122) #[] #[]]) Hr rfl rfl)<|qv rfl (Ea (cs:=[.nilFunc,.nilFunc,.nilFunc,.nilFunc,.func (.func 116) #[] #[],.func (.func 117) #[] #[],.func (.func 118) #[] #[],.func (.func 119) #[] #[],.func (.func 116) #[] #[],.func (.func 117) #[] #[],.func (.func 118) #[] #[],.func (.func 119) #[] #[],.func (.func 116) #[] #[],.func (.func 117) #[] #[],.func (.func 118) #[] #[],.func (.func 119) #[] #[],.func (.func 99) #[] #[],.func (.func 120) #[] #[],.func (.func 121) #[] #[],.func (.func 122) #[] #[]]) Qa1 rfl rfl)<|qe rfl (Qz (cs:=[.nilFunc,.nilFunc,.nilFunc,.nilFunc,.nilFunc,.nilFunc,.nilFunc,.nilFunc,.nilFunc,.nilFunc,.nilFunc,.nilFunc,.nilFunc,.nilFunc,.nilFunc,.nilFunc,.nilFunc,.nilFunc,.nilFunc,.nilFunc]) Ov rfl) ?_
 rintro _ w8 ⟨b8,rfl,cl,aF,G8⟩
 have cI:=G8.size
 have cm:=aF.lt
 refine qe rfl (Qr Qa0 rfl rfl rfl aF rfl rfl) ?_
 rintro _ w9 ⟨aG,M9⟩
 have cJ:=M9.size
 refine Qa<|Qj ?_
 have Y1:=Gr.trans (Gr.trans (Gr.trans (Gr.trans (Gr.trans G1 G2) G3) G4) G5) G6
 have I:=(((((Gr.refl w).trans Y1).md M7).trans G8).md M9)
 refine qj (β:=Bool) (rg 14 9) (fun a1=>[(22,.bool a1)]) (fun a1 wr=>(Aq p0 p1 p2 p3 a1=some r)∧Kz [] w9 wr) ?_ ?_
 · refine qg 9 rfl<|qv rfl (Qg Hj rfl) ?_
   have Y2:=Gr.trans G5 G6
   have ah:=((((ap.gr Y2).md M7).gr G8).md M9)
   refine qv rfl (Ql (v:=bv p1.Kind) Zj rfl ah rfl)<|qv rfl (Ee (p:=p1.Kind) (q:=1#8) rfl rfl)<|Zm hm rfl (Qw rfl) (fun c8 hm=>?_) (fun c8 hm=>?_)
   · refine qn 5 rfl<|Qi ?_
     exact⟨rfl,true,Qh,hm,Xi⟩
   refine qv rfl (Qg Hj rfl)<|qv rfl (Ql (v:=bv p1.Kind) Zj rfl ah rfl)<|qv rfl (Oj Po rfl)<|qv rfl (Vd (a:=Xr p1.Kind) (b:=5) rfl rfl)<|qm rfl<|Qi ?_
   exact⟨rfl,(decide ((5:Int)≤Xr p1.Kind)),Qh,hm,Xi⟩
 clear hm;rintro a1 cK ⟨hm,c⟩
 have cL:=c.size
 unfold Aq at hm
 refine Zw hm rfl (fun c1 hm=>?_) (fun c1 hm=>?_)
 · refine qs 3 rfl<|qv rfl (Zk (cs:=[.nilFunc,.nilFunc,.nilFunc,.nilFunc]) Hr rfl rfl) ?_
   have a7:=(((((ac.gr G6).md M7).gr G8).md M9).kz c)
   refine qe rfl (Qr Zn rfl rfl rfl a7 rfl rfl) ?_
   rintro _ cM ⟨aH,ar⟩
   have cN:=ar.size
   refine qm rfl<|qb<|⟨_,_,rfl,Xy rfl (Zf Zn rfl aH rfl) (Qn rfl),?_⟩
   refine qn 3 rfl<|qe rfl (Qz (cs:=[.nilFunc,.nilFunc,.nilFunc,.nilFunc]) Vt rfl) ?_
   rintro _ cO ⟨cP,rfl,a8,ai,au⟩
   have cQ:=au.size
   have cn:=ai.lt
   refine qe rfl (Qr Zn rfl rfl rfl ai rfl rfl) ?_
   rintro _ cR ⟨co,av⟩
   have cS:=av.size
   refine qm rfl<|Qa<|Qj<|qs 2 rfl<|qm rfl<|qv rfl (Zp (a:=2) (b:=0) rfl rfl) ?_
   refine Qa<|Td rfl<|qs 4 rfl<|qv rfl (Zk (cs:=Qq.cs (Qq.mk [] 0#64 [] k0 k0) (.slice none 0 0) (.slice none 0 0)) Hs rfl (by kernel_rfl))<|qm rfl ?_
   have Y3:=Gr.trans (Gr.trans G4 G5) G6
   have a9:=((((((((H.gr Y3).md M7).gr G8).md M9).kz c).md ar).gr au).md av)
   refine qe rfl (Qr Jw rfl rfl (Qq.cs_ones _ _ _ rfl rfl) a9 rfl rfl) ?_
   rintro _ cT ⟨aI,aJ⟩
   have cU:=aJ.size
   refine qm rfl<|qb ?_
   have ba:=(((((I.kz c).md ar).trans au).md av).md aJ)
   cases hm
   exact⟨_,_,rfl,Xy rfl (Zf Jw rfl aI rfl) (Qn rfl),(.slice none 0 0),0,0,(.slice none 0 0),0,0,rfl,(Za _ 0 195 18),⟨.inl rfl⟩,(Za _ 0 65 2),⟨.inl rfl⟩,⟨(.inl rfl)⟩,ba⟩
 refine qu<|qs 6 rfl<|qv rfl (Qg Hj rfl) ?_
 have Y4:=Gr.trans G5 G6
 have aw:=(((((ap.gr Y4).md M7).gr G8).md M9).kz c)
 refine qv rfl (Ql (v:=bv p1.Kind) Zj rfl aw rfl) ?_
 by_cases c2:(Xr p1.Kind=1∨Xr p1.Kind=2∨Xr p1.Kind=3)
 · replace hm:=Li c2 hm
   refine qv rfl (Fp Tryz.underlying229 (Zn).siz rfl rfl (by omega)) ?_
   have bb:=(aG.kz c)
   refine qv rfl (Jm (vs:=[.func (.func 116) #[] #[],.func (.func 117) #[] #[],.func (.func 118) #[] #[],.func (.func 119) #[] #[]]) Zn rfl bb (by rcases c2 with h|h|h<;>rw[h]<;>rfl) rfl)<|qe rfl (Qz (cs:=[.nilFunc,.nilFunc,.nilFunc,.nilFunc]) Vt rfl) ?_
   rintro _ cV ⟨cW,rfl,bc,aj,j⟩
   have cX:=j.size
   have cp:=aj.lt
   refine qe rfl (Qr Zn rfl rfl rfl aj rfl rfl) ?_
   rintro _ cY ⟨aK,k⟩
   have cZ:=k.size
   refine Qa<|Qj<|dw [([b5])] [] (.leaf [(0,10),(1,10),(2,10),(3,10),(4,0),(5,0),(6,10)]) ?_
   intro bd ax cq
   refine Xo ?_
   have aL:=(aK.gr ax)
   refine dh 0 rfl rfl (fun w hS=>Jm (vs:=[.func (.func 116) #[] #[],.func (.func 117) #[] #[],.func (.func 118) #[] #[],.func (.func 119) #[] #[]]) Zn rfl (Bx.kp aL hS) rfl rfl)<|dh 0 rfl rfl (fun w hS=>Qg Su rfl)<|dh 0 rfl rfl (fun w hS=>Ql (v:=.func (.func 116) #[] #[]) Lo rfl (Bx.kp aL hS) rfl) ?_
   have be:=(((aw.gr j).md k).gr ax)
   refine dh 0 rfl rfl (fun w hS=>Qu Jr rfl (Bx.kp be hS) rfl) ?_
   obtain⟨x2,bf,hm⟩:=Qd hm
   refine qz [] rfl (Vk Ae rfl rfl (Et bf)) ⟨fun _=>Qb,trivial⟩ ?_
   rintro _ c0 ⟨rfl,ad⟩
   have c9:=ad.size
   refine kG ad ?_
   have Y5:=Gr.trans ax ad
   have bg:=((((((((ac.gr G6).md M7).gr G8).md M9).kz c).gr j).md k).gr Y5)
   refine qz [(1,b5)] rfl (Qr Zn rfl rfl rfl bg rfl rfl) ⟨fun _=>Qb,trivial⟩ ?_
   rintro _ da ⟨aM,l⟩
   have db:=l.size
   refine kM l ?_
   have bh:=(((Kp.refl ([b5]) bd).gr ad).md l)
   refine dn 0 rfl rfl bh<|Qa<|Qs<|⟨_,_,rfl,Xy rfl (Zf Zn rfl aM rfl) (Qn rfl),?_⟩
   refine qn 3 rfl<|qe rfl (Qz (cs:=[.nilFunc,.nilFunc,.nilFunc,.nilFunc]) Vt rfl) ?_
   rintro _ dc ⟨dd,rfl,bi,ak,u⟩
   have de:=u.size
   have cr:=ak.lt
   refine qe rfl (Qr Zn rfl rfl rfl ak rfl rfl) ?_
   rintro _ df ⟨aN,y⟩
   have dg:=y.size
   refine qm rfl<|Qa<|Qj<|qs 2 rfl<|qm rfl<|qv rfl (Zp (a:=x2) (b:=0) rfl rfl) ?_
   refine Qa<|Zv hm rfl (fun c3 hm=>?_) (fun c3 hm=>?_)
   · refine qs 4 rfl<|qv rfl (Zk (cs:=Qq.cs (Qq.mk [] 0#64 [] k0 k0) (.slice none 0 0) (.slice none 0 0)) Hs rfl (by kernel_rfl))<|qm rfl ?_
     have Y6:=Gr.trans G4 Y4
     have bj:=(((((((((((H.gr Y6).md M7).gr G8).md M9).kz c).gr j).md k).gr Y5).md l).gr u).md y)
     refine qe rfl (Qr Jw rfl rfl (Qq.cs_ones _ _ _ rfl rfl) bj rfl rfl) ?_
     rintro _ di ⟨aO,aP⟩
     have dj:=aP.size
     refine qm rfl<|qb ?_
     have bk:=((((((((I.kz c).trans j).md k).trans Y5).md l).trans u).md y).md aP)
     cases hm
     exact⟨_,_,rfl,Xy rfl (Zf Jw rfl aO rfl) (Qn rfl),(.slice none 0 0),0,0,(.slice none 0 0),0,0,rfl,(Za _ 0 195 18),⟨.inl rfl⟩,(Za _ 0 65 2),⟨.inl rfl⟩,⟨(.inl rfl)⟩,bk⟩
   refine qu<|Qj<|qs 3 rfl<|qm rfl ?_
   obtain⟨x3,bl,hm⟩:=Qd hm
   refine qe rfl (eC Sk rfl (Sr bl)) ?_
   rintro _ dk ⟨rfl,ae⟩
   have dl:=ae.size
   refine qv rfl (Jj rfl)<|Qa<|Zw hm rfl (fun c4 hm=>?_) (fun c4 hm=>?_)
   · refine qs 3 rfl<|qv rfl (Zk (cs:=Qq.cs (Qq.mk [] 0#64 [] k0 k0) (.slice none 0 0) (.slice none 0 0)) Hs rfl (by kernel_rfl)) ?_
     have Y7:=Gr.trans G4 Y4
     have bm:=((((((((((((H.gr Y7).md M7).gr G8).md M9).kz c).gr j).md k).gr Y5).md l).gr u).md y).gr ae)
     refine qe rfl (Qr Jw rfl rfl (Qq.cs_ones _ _ _ rfl rfl) bm rfl rfl) ?_
     rintro _ dp ⟨aQ,aR⟩
     have dq:=aR.size
     refine qm rfl<|qb ?_
     have bn:=(((((((((I.kz c).trans j).md k).trans Y5).md l).trans u).md y).trans ae).md aR)
     cases hm
     exact⟨_,_,rfl,Xy rfl (Zf Jw rfl aQ rfl) (Qn rfl),(.slice none 0 0),0,0,(.slice none 0 0),0,0,rfl,(Za _ 0 195 18),⟨.inl rfl⟩,(Za _ 0 65 2),⟨.inl rfl⟩,⟨(.inl rfl)⟩,bn⟩
   refine qu<|Qj<|dw [([b3])] [] (.leaf [(0,10),(1,10),(2,10),(3,10),(4,10),(5,10),(6,10),(8,10),(9,10),(7,0),(10,0),(11,10),(12,10),(13,0),(14,10)]) ?_
   intro bo bp ct
   refine Xo<|dh 0 rfl rfl (fun w hS=>Qg Qlj rfl) ?_
   have Y8:=Gr.trans ae bp
   have bq:=(aN.gr Y8)
   refine dh 0 rfl rfl (fun w hS=>Ql (v:=.func (.func 119) #[] #[]) Qhg rfl (Bx.kp bq hS) rfl) ?_
   have Y9:=Gr.trans (Gr.trans (Gr.trans G2 G3) G4) Y4
   have aS:=((((((((((((ao.gr Y9).md M7).gr G8).md M9).kz c).gr j).md k).gr Y5).md l).gr u).md y).gr Y8)
   refine dh 0 rfl rfl (fun w hS=>Qu Qy rfl (Bx.kp aS hS) rfl) ?_
   have aT:=Gr.trans G4 Y4
   have br:=((((((((((((B8.gr aT).md M7).gr G8).md M9).kz c).gr j).md k).gr Y5).md l).gr u).md y).gr Y8)
   refine dh 0 rfl rfl (fun w hS=>Qu Jr rfl (Bx.kp br hS) rfl)<|dm 0 rfl rfl<|dh 0 rfl rfl (fun w hS=>Qu Qy rfl (Bx.kp aS hS) rfl)<|dm 0 rfl rfl<|dm 0 rfl rfl<|dh 0 rfl rfl (fun w hS=>Yr Yw rfl) ?_
   obtain⟨x4,bs,hm⟩:=Qd hm
   refine qz [] rfl (eC Af rfl (Ar bs)) ⟨fun _=>Qb,trivial⟩ ?_
   rintro _ dr ⟨rfl,J⟩
   have ds:=J.size
   refine kG J ?_
   have bu:=(((((((((((((an.gr Y1).md M7 (Qm t)).gr G8).md M9 (Qm t)).kz c).gr j).md k (Qm t)).gr Y5).md l (Qm t)).gr u).md y (Qm t)).gr Y8).gr J)
   obtain⟨x5,bw,hm⟩:=Qd hm
   refine qz [] rfl (Vk Qq2 rfl rfl (Qro bw bu)) ⟨fun _=>Qb,trivial⟩ ?_
   rintro _ dt ⟨K,L,M,N,O,P,rfl,d,D,f,E,ay,aa⟩
   have du:=aa.size
   have cu:=d.lth
   have cv:=f.lth
   refine kG aa ?_
   have az:=(((Kp.refl ([b3]) bo).gr J).gr aa)
   refine dn 0 rfl rfl az<|dn 0 rfl rfl az ?_
   have bx:=((((((((((((((H.gr aT).md M7).gr G8).md M9).kz c).gr j).md k).gr Y5).md l).gr u).md y).gr Y8).gr J).gr aa)
   refine qz [(1,b3)] rfl (Qr Jw rfl rfl (Qq.cs_ones _ _ _ (Qe.oneB d) (Qe.oneB f)) bx rfl rfl) ⟨fun _=>Qb,trivial⟩ ?_
   rintro _ dv ⟨aU,Q⟩
   have dy:=Q.size
   refine kM Q ?_
   have bz:=(az.md Q)
   refine dn 0 rfl rfl bz<|Qa<|Qs ?_
   have bA:=(d.md Q (Qt D))
   have bB:=(f.md Q (Qt E))
   have bC:=(((((((((((I.kz c).trans j).md k).trans Y5).md l).trans u).md y).trans Y8).trans J).trans aa).md Q)
   cases hm
   exact⟨_,_,rfl,Xy rfl (Zf Jw rfl aU rfl) (Qn rfl),K,L,M,N,O,P,rfl,bA,⟨(Qk (A:=(fun x=>w.heap.size≤x)) D)⟩,bB,⟨(Qk (A:=(fun x=>w.heap.size≤x)) E)⟩,⟨(Qc ay.o)⟩,bC⟩
 replace hm:=Lh c2 hm
 by_cases c5:(Xr p1.Kind=4)
 · replace hm:=Li c5 hm
   refine qv rfl (Fp Tryz.underlying229 (Zn).siz rfl rfl (by omega)) ?_
   have bD:=(aG.kz c)
   refine qv rfl (Jm (vs:=[.func (.func 99) #[] #[],.func (.func 120) #[] #[],.func (.func 121) #[] #[],.func (.func 122) #[] #[]]) Zn rfl bD (by rw[c5];rfl) rfl)<|qe rfl (Qz (cs:=[.nilFunc,.nilFunc,.nilFunc,.nilFunc]) Vt rfl) ?_
   rintro _ dz ⟨dA,rfl,bE,al,m⟩
   have dB:=m.size
   have cw:=al.lt
   refine qe rfl (Qr Zn rfl rfl rfl al rfl rfl) ?_
   rintro _ dC ⟨aV,n⟩
   have dD:=n.size
   refine Qa<|Qj<|dw [([b5])] [] (.leaf [(0,10),(1,10),(2,10),(3,10),(4,0),(5,0),(6,10)]) ?_
   intro bF aA cx
   refine Xo ?_
   have aW:=(aV.gr aA)
   refine dh 0 rfl rfl (fun w hS=>Jm (vs:=[.func (.func 99) #[] #[],.func (.func 120) #[] #[],.func (.func 121) #[] #[],.func (.func 122) #[] #[]]) Zn rfl (Bx.kp aW hS) rfl rfl)<|dh 0 rfl rfl (fun w hS=>Qg Su rfl)<|dh 0 rfl rfl (fun w hS=>Ql (v:=.func (.func 99) #[] #[]) Lo rfl (Bx.kp aW hS) rfl) ?_
   have bG:=(((aw.gr m).md n).gr aA)
   refine dh 0 rfl rfl (fun w hS=>Qu Jr rfl (Bx.kp bG hS) rfl) ?_
   obtain⟨x6,bH,hm⟩:=Qd hm
   refine qz [] rfl (Vk Qbc rfl rfl (Qd0 bH)) ⟨fun _=>Qb,trivial⟩ ?_
   rintro _ dE ⟨rfl,af⟩
   have dF:=af.size
   refine kG af ?_
   have z:=Gr.trans aA af
   have bI:=((((((((ac.gr G6).md M7).gr G8).md M9).kz c).gr m).md n).gr z)
   refine qz [(1,b5)] rfl (Qr Zn rfl rfl rfl bI rfl rfl) ⟨fun _=>Qb,trivial⟩ ?_
   rintro _ dG ⟨aX,s⟩
   have dH:=s.size
   refine kM s ?_
   have bJ:=(((Kp.refl ([b5]) bF).gr af).md s)
   refine dn 0 rfl rfl bJ<|Qa<|Qs<|⟨_,_,rfl,Xy rfl (Zf Zn rfl aX rfl) (Qn rfl),?_⟩
   refine qn 3 rfl<|qe rfl (Qz (cs:=[.nilFunc,.nilFunc,.nilFunc,.nilFunc]) Vt rfl) ?_
   rintro _ dI ⟨dJ,rfl,bK,am,B⟩
   have dK:=B.size
   have cy:=am.lt
   refine qe rfl (Qr Zn rfl rfl rfl am rfl rfl) ?_
   rintro _ dL ⟨aY,C⟩
   have dM:=C.size
   refine qm rfl<|Qa<|Qj<|qs 2 rfl<|qm rfl<|qv rfl (Zp (a:=x6) (b:=0) rfl rfl) ?_
   refine Qa<|Zv hm rfl (fun c6 hm=>?_) (fun c6 hm=>?_)
   · refine qs 4 rfl<|qv rfl (Zk (cs:=Qq.cs (Qq.mk [] 0#64 [] k0 k0) (.slice none 0 0) (.slice none 0 0)) Hs rfl (by kernel_rfl))<|qm rfl ?_
     have bL:=Gr.trans G4 Y4
     have bM:=(((((((((((H.gr bL).md M7).gr G8).md M9).kz c).gr m).md n).gr z).md s).gr B).md C)
     refine qe rfl (Qr Jw rfl rfl (Qq.cs_ones _ _ _ rfl rfl) bM rfl rfl) ?_
     rintro _ dN ⟨aZ,a0⟩
     have dO:=a0.size
     refine qm rfl<|qb ?_
     have bN:=((((((((I.kz c).trans m).md n).trans z).md s).trans B).md C).md a0)
     cases hm
     exact⟨_,_,rfl,Xy rfl (Zf Jw rfl aZ rfl) (Qn rfl),(.slice none 0 0),0,0,(.slice none 0 0),0,0,rfl,(Za _ 0 195 18),⟨.inl rfl⟩,(Za _ 0 65 2),⟨.inl rfl⟩,⟨(.inl rfl)⟩,bN⟩
   refine qu<|Qj<|qs 3 rfl<|qm rfl ?_
   obtain⟨x7,bO,hm⟩:=Qd hm
   refine qe rfl (eC Sk rfl (Sr bO)) ?_
   rintro _ dP ⟨rfl,ag⟩
   have dQ:=ag.size
   refine qv rfl (Jj rfl)<|Qa<|Zw hm rfl (fun c7 hm=>?_) (fun c7 hm=>?_)
   · refine qs 3 rfl<|qv rfl (Zk (cs:=Qq.cs (Qq.mk [] 0#64 [] k0 k0) (.slice none 0 0) (.slice none 0 0)) Hs rfl (by kernel_rfl)) ?_
     have bP:=Gr.trans G4 Y4
     have bQ:=((((((((((((H.gr bP).md M7).gr G8).md M9).kz c).gr m).md n).gr z).md s).gr B).md C).gr ag)
     refine qe rfl (Qr Jw rfl rfl (Qq.cs_ones _ _ _ rfl rfl) bQ rfl rfl) ?_
     rintro _ dR ⟨a2,a3⟩
     have dS:=a3.size
     refine qm rfl<|qb ?_
     have bR:=(((((((((I.kz c).trans m).md n).trans z).md s).trans B).md C).trans ag).md a3)
     cases hm
     exact⟨_,_,rfl,Xy rfl (Zf Jw rfl a2 rfl) (Qn rfl),(.slice none 0 0),0,0,(.slice none 0 0),0,0,rfl,(Za _ 0 195 18),⟨.inl rfl⟩,(Za _ 0 65 2),⟨.inl rfl⟩,⟨(.inl rfl)⟩,bR⟩
   refine qu<|Qj<|dw [([b3])] [] (.leaf [(0,10),(1,10),(2,10),(3,10),(4,10),(5,10),(6,10),(8,10),(9,10),(7,0),(10,0),(11,10),(12,10),(13,0),(14,10)]) ?_
   intro bS bT cz
   refine Xo<|dh 0 rfl rfl (fun w hS=>Qg Qlj rfl) ?_
   have R:=Gr.trans ag bT
   have bU:=(aY.gr R)
   refine dh 0 rfl rfl (fun w hS=>Ql (v:=.func (.func 122) #[] #[]) Qhg rfl (Bx.kp bU hS) rfl) ?_
   have bV:=Gr.trans (Gr.trans (Gr.trans G2 G3) G4) Y4
   have a4:=((((((((((((ao.gr bV).md M7).gr G8).md M9).kz c).gr m).md n).gr z).md s).gr B).md C).gr R)
   refine dh 0 rfl rfl (fun w hS=>Qu Qy rfl (Bx.kp a4 hS) rfl) ?_
   have a5:=Gr.trans G4 Y4
   have bW:=((((((((((((B8.gr a5).md M7).gr G8).md M9).kz c).gr m).md n).gr z).md s).gr B).md C).gr R)
   refine dh 0 rfl rfl (fun w hS=>Qu Jr rfl (Bx.kp bW hS) rfl)<|dm 0 rfl rfl<|dh 0 rfl rfl (fun w hS=>Qu Qy rfl (Bx.kp a4 hS) rfl)<|dm 0 rfl rfl<|dm 0 rfl rfl<|dh 0 rfl rfl (fun w hS=>Yr Yw rfl) ?_
   obtain⟨x8,bX,hm⟩:=Qd hm
   refine qz [] rfl (eC Af rfl (Ar bX)) ⟨fun _=>Qb,trivial⟩ ?_
   rintro _ dT ⟨rfl,S⟩
   have dU:=S.size
   refine kG S ?_
   have bY:=(((((((((((((an.gr Y1).md M7 (Qm t)).gr G8).md M9 (Qm t)).kz c).gr m).md n (Qm t)).gr z).md s (Qm t)).gr B).md C (Qm t)).gr R).gr S)
   obtain⟨x9,bZ,hm⟩:=Qd hm
   refine qz [] rfl (Vk Qq5 rfl rfl (Qu7 bZ bY)) ⟨fun _=>Qb,trivial⟩ ?_
   rintro _ dV ⟨T,U,V,W,X,Y,rfl,g,F,i,G,aB,ab⟩
   have dW:=ab.size
   have cA:=g.lth
   have cB:=i.lth
   refine kG ab ?_
   have aC:=(((Kp.refl ([b3]) bS).gr S).gr ab)
   refine dn 0 rfl rfl aC<|dn 0 rfl rfl aC ?_
   have b0:=((((((((((((((H.gr a5).md M7).gr G8).md M9).kz c).gr m).md n).gr z).md s).gr B).md C).gr R).gr S).gr ab)
   refine qz [(1,b3)] rfl (Qr Jw rfl rfl (Qq.cs_ones _ _ _ (Qe.oneB g) (Qe.oneB i)) b0 rfl rfl) ⟨fun _=>Qb,trivial⟩ ?_
   rintro _ dX ⟨a6,Z⟩
   have dY:=Z.size
   refine kM Z ?_
   have b7:=(aC.md Z)
   refine dn 0 rfl rfl b7<|Qa<|Qs ?_
   have b9:=(g.md Z (Qt F))
   have ca:=(i.md Z (Qt G))
   have cb:=(((((((((((I.kz c).trans m).md n).trans z).md s).trans B).md C).trans R).trans S).trans ab).md Z)
   cases hm
   exact⟨_,_,rfl,Xy rfl (Zf Jw rfl a6 rfl) (Qn rfl),T,U,V,W,X,Y,rfl,b9,⟨(Qk (A:=(fun x=>w.heap.size≤x)) F)⟩,ca,⟨(Qk (A:=(fun x=>w.heap.size≤x)) G)⟩,⟨(Qc aB.o)⟩,cb⟩
 replace hm:=Lh c5 hm
 cases hm
theorem Dx {p0 p1 p2 bp0 vp0_0 zp0_0 gp0_0 r}(hm:Pr p0 p1 p2=some r){w:World}(hbp0:Bx w bp0 226 (Ku.cs p0 vp0_0))(h:Qe w zp0_0 gp0_0 5 1 vp0_0 (p0.out.map Xx))(j:Xk (zp0_0=0∨gp0_0≠bp0)):
 Calls Tryz.prog 114 [.pointer (some ⟨bp0,0,none⟩),wv p1,.int .i64 p2].toArray w fun e w'=>∃ v,e=.returned v∧(∃ ub0_0 zb0_0 gb0_0,v=.tuple #[]∧Qe w' zb0_0 gb0_0 5 1 ub0_0 (r.out.map Xx)∧Xk (zb0_0=0∨(gb0_0=gp0_0∧zp0_0≠0)∨w.heap.size≤gb0_0)∧Bx w' bp0 226 (Ku.cs r ub0_0)∧Kz [(zp0_0,gp0_0),(1,bp0)] w w'):=by
 have n:=h.lth
 have J:=hbp0.lt
 unfold Pr at hm
 refine Xu 26 Tryz.func114 rfl rfl rfl<|qs 3 rfl<|qm rfl<|qv rfl (Ys (k:=.i64) (a:=p2) (b:=1) rfl rfl)<|qm rfl<|Qa ?_
 refine Xz<|Kb (α:=Nat × Int × List (BitVec 8) × Value × Nat × Nat) ([2]++rg 8 18) (fun⟨n1,a4,a5,vy6,zy6,gy6⟩=>[(2,.int .i64 a4)]) (fun⟨n1,a4,a5,vy6,zy6,gy6⟩ wr=>(Xq (Qc9 p1) n1 (a4,a5)=some r)∧Qe wr zy6 gy6 5 1 vy6 (a5.map Xx)∧Xk (zy6=0∨(gy6=gp0_0∧zp0_0≠0)∨w.heap.size≤gy6)∧Bx wr bp0 226 (Ku.cs (Ku.mk a5) vy6)∧Kz [(1,bp0),(zp0_0,gp0_0)] w wr) (fun⟨n1,a4,a5,vy6,zy6,gy6⟩=>n1) ⟨Ze,Qp (p2-1),p0.out,vp0_0,zp0_0,gp0_0⟩ ?_ ?_ ?_
 · exact Qh
 · exact⟨hm,h,⟨Qb⟩,hbp0,Kz.refl _ _⟩
 clear hm;rintro⟨n1,a4,a5,vy6,zy6,gy6⟩ w1 ⟨hm,f,d,g,K1⟩
 have z3:=K1.size
 have K:=f.lth
 have L:=g.lt
 have hb:=Kd hm;clear hm;obtain⟨n1,rfl,hm⟩:=hb
 generalize p:Xq (Qc9 p1) n1=H at hm
 unfold Qc9 at hm
 try dsimp only at hm
 refine Qj<|qs 2 rfl<|qm rfl<|qv rfl (Vd (a:=a4) (b:=0) rfl rfl)<|Qa<|Kg hm rfl (fun c1 hm=>?_) (fun c1 hm=>?_)
 · refine Jl<|Zd<|Zd<|Jk ?_
   have z:=((Kz.refl [(zp0_0,gp0_0),(1,bp0)] w).kz K1 (Qc (Qb:zp0_0=0∨(gp0_0=gp0_0∧zp0_0≠0)∨w.heap.size≤gp0_0)))
   cases hm
   exact⟨_,_,rfl,Ph rfl,vy6,zy6,gy6,rfl,f,⟨(Qv (A:=(fun x=>(x=gp0_0∧zp0_0≠0)∨w.heap.size≤x)) d Qb)⟩,g,z⟩
 refine qu<|Qj<|Xz<|dw [([bp0]++zf zy6 gy6),([]++zf zy6 gy6)] [(14,[1])] (.leaf [(0,10),(1,10),(2,10),(3,10),(4,11),(5,10),(6,10),(7,10),(8,10),(9,10),(10,0),(11,0),(12,10),(13,10),(14,0)]) ?_
 intro w2 G2 M
 refine Xo<|dn 0 rfl rfl (Kp.refl ([bp0]++zf zy6 gy6) w2)<|dn 0 rfl rfl (Kp.refl ([bp0]++zf zy6 gy6) w2)<|qh 0 rfl rfl (Kp.refl ([bp0]++zf zy6 gy6) w2) (fun w hS=>Yy rfl rfl)<|qh 0 rfl rfl (Kp.refl ([bp0]++zf zy6 gy6) w2) (fun w hS=>Qg Uf rfl) ?_
 have B6:=(g.gr G2)
 refine qh 1 rfl rfl (Kp.refl ([]++zf zy6 gy6) w2) (fun w hS=>Ql (v:=vy6) Yo rfl (Bx.kp B6 hS (Qc (Qf (b:=bp0) d (Jt n.o j.o)))) rfl)<|dn 0 rfl rfl (Kp.refl ([bp0]++zf zy6 gy6) w2)<|dn 0 rfl rfl (Kp.refl ([bp0]++zf zy6 gy6) w2)<|qh 0 rfl rfl (Kp.refl ([bp0]++zf zy6 gy6) w2) (fun w hS=>Wj (k:=.i64) (a:=8) (b:=a4) rfl rfl) ?_
 obtain⟨nn7,hnn7,hm⟩:=Qd hm
 refine qh 0 rfl rfl (Kp.refl ([bp0]++zf zy6 gy6) w2) (fun w hS=>Om (c:=p1) (b:=(Qp (8*a4))) rfl rfl hnn7)<|qh 0 rfl rfl (Kp.refl ([bp0]++zf zy6 gy6) w2) (fun w hS=>Qio Pn rfl)<|qz [] rfl (Ko [(p1 >>> nn7).setWidth 8] Xx Qja rfl rfl (Ks rfl) rfl rfl rfl) ⟨fun _=>Qb,fun _=>Qb,trivial⟩ ?_
 rintro N w3 ⟨O,I,q,G3⟩
 have z7:=G3.size
 have P:=q.lth
 refine kG G3 ?_
 have B9:=((f.gr G2).gr G3)
 obtain⟨l8,B,hm⟩:=Qd hm
 refine qz [(zy6,gy6)] rfl (Wo (l:=a5) (m:=[(p1 >>> nn7).setWidth 8]) (c:=Xx) Tj rfl rfl B9 (Qe.rd q) B (by decide)) ⟨fun _=>(Qc (Qb:zy6=0∨(gy6=gy6∧zy6≠0)∨w2.heap.size≤gy6)),fun _=>(Qc (Qb:zy6=0∨(gy6=gy6∧zy6≠0)∨w2.heap.size≤gy6)),trivial⟩ ?_
 rintro s w4 ⟨C,D,t,i,Q,u⟩
 have R:=i.size
 refine⟨Kz.ofKa i,?_⟩
 have y:=(((Kp.refl ([bp0]++zf zy6 gy6) w2).gr G3).ka i (Qc (Qb:zy6=0∨(gy6=gy6∧zy6≠0)∨w2.heap.size≤gy6)))
 refine qh 0 rfl rfl y (fun w hS=>Yy rfl rfl)<|qh 0 rfl rfl y (fun w hS=>Qg Uf rfl) ?_
 have E:=((B6.gr G3).ka i (Qc (Qf (b:=bp0) d (Jt n.o j.o))))
 refine qz [(1,bp0)] rfl (Js (cs':=Ku.cs (Ku.mk l8) s) (Yo).siz rfl rfl (Qe.oneB t) E rfl rfl) ⟨fun _=>Qb,nofun,trivial⟩ ?_
 rintro _ w5 ⟨F,M5⟩
 have S:=M5.size
 refine kM M5<|Qi<|Zo<|Zg<|qg 3 rfl<|qm rfl<|qv rfl (Ys (k:=.i64) (a:=a4) (b:=1) rfl rfl) ?_
 refine qm rfl<|Qi ?_
 have K_14:Kz [(1,bp0),(zp0_0,gp0_0)] w w5:=((((K1.gr G2).gr G3).ka i (Qc (Qv (A:=(fun x=>(x=gp0_0∧zp0_0≠0)∨w.heap.size≤x)) d Qb))).md M5)
 have G:=(t.md M5 (Bt u (Qf d (Jt n.o j.o))))
 subst p
 exact⟨rfl,⟨n1,Qp (a4-1),l8,s,C,D⟩,Qh,⟨hm,G,⟨(Yp (A:=(fun x=>(x=gp0_0∧zp0_0≠0)∨w.heap.size≤x)) u (Qv (A:=(fun x=>(x=gp0_0∧zp0_0≠0)∨w.heap.size≤x)) d Qb))⟩,F,K_14⟩,Nat.lt_succ_self _⟩
theorem Qge {p0 p1 bp0 vp0_0 zp0_0 gp0_0 r}(hm:Aw p0 p1=some r){w:World}(hbp0:Bx w bp0 226 (Ku.cs p0 vp0_0))(a:Qe w zp0_0 gp0_0 5 1 vp0_0 (p0.out.map Xx))(d:Xk (zp0_0=0∨gp0_0≠bp0)):
 Calls Tryz.prog 115 [.pointer (some ⟨bp0,0,none⟩),kv p1].toArray w fun e w'=>∃ v,e=.returned v∧(∃ ub0_0 zb0_0 gb0_0,v=.tuple #[]∧Qe w' zb0_0 gb0_0 5 1 ub0_0 (r.out.map Xx)∧Xk (zb0_0=0∨(gb0_0=gp0_0∧zp0_0≠0)∨w.heap.size≤gb0_0)∧Bx w' bp0 226 (Ku.cs r ub0_0)∧Kz [(zp0_0,gp0_0),(1,bp0)] w w'):=by
 have f:=a.lth
 have F:=hbp0.lt
 unfold Aw at hm
 refine Xu 13 Tryz.func115 rfl rfl rfl<|qs 1 rfl<|qe rfl (Xp (cs:=kb p1) rfl rfl) ?_
 rintro _ w1 ⟨b1,rfl,E,g,G1⟩
 have z3:=G1.size
 have G:=g.lt
 refine Qa<|dw [([bp0]++zf zp0_0 gp0_0),([]++zf zp0_0 gp0_0)] [(9,[1])] (.leaf [(0,10),(1,10),(2,10),(3,10),(4,11),(5,10),(6,0),(7,10),(8,10),(9,0)]) ?_
 intro w2 G2 H
 refine Xo<|dn 0 rfl rfl (Kp.refl ([bp0]++zf zp0_0 gp0_0) w2)<|dn 0 rfl rfl (Kp.refl ([bp0]++zf zp0_0 gp0_0) w2)<|qh 0 rfl rfl (Kp.refl ([bp0]++zf zp0_0 gp0_0) w2) (fun w hS=>Yy rfl rfl)<|qh 0 rfl rfl (Kp.refl ([bp0]++zf zp0_0 gp0_0) w2) (fun w hS=>Qg Uf rfl) ?_
 have B5:=((hbp0.gr G1).gr G2)
 refine qh 1 rfl rfl (Kp.refl ([]++zf zp0_0 gp0_0) w2) (fun w hS=>Ql (v:=vp0_0) Yo rfl (Bx.kp B5 hS (Qc ((Jt f.o d.o):zp0_0=0∨gp0_0≠bp0))) rfl) ?_
 have B6:=(g.gr G2)
 have i:=Qi0 (o:=0) (p:=p1) B6 rfl
 have I:=i.lth
 refine qh 0 rfl rfl (Kp.refl ([bp0]++zf zp0_0 gp0_0) w2) (fun w hS=>Qir (n:=16) (l:=0) (h:=16) Tryz.underlying36 (Zj).siz rfl rfl rfl (by decide) (by decide) (by decide)) ?_
 have B9:=((a.gr G1).gr G2)
 obtain⟨l1,t,hm⟩:=Qd hm
 refine qz [(zp0_0,gp0_0)] rfl (Wo (l:=p0.out) (m:=Jz p1) (c:=Xx) Tj rfl rfl B9 i t (by decide)) ⟨fun _=>(Qc (Qb:zp0_0=0∨(gp0_0=gp0_0∧zp0_0≠0)∨w2.heap.size≤gp0_0)),fun _=>(Qc (Qb:zp0_0=0∨(gp0_0=gp0_0∧zp0_0≠0)∨w2.heap.size≤gp0_0)),trivial⟩ ?_
 rintro j w3 ⟨u,y,k,b,J,q⟩
 have K:=b.size
 refine⟨Kz.ofKa b,?_⟩
 have s:=((Kp.refl ([bp0]++zf zp0_0 gp0_0) w2).ka b (Qc (Qb:zp0_0=0∨(gp0_0=gp0_0∧zp0_0≠0)∨w2.heap.size≤gp0_0)))
 refine qh 0 rfl rfl s (fun w hS=>Yy rfl rfl)<|qh 0 rfl rfl s (fun w hS=>Qg Uf rfl) ?_
 have z:=(B5.ka b (Qc ((Jt f.o d.o):zp0_0=0∨gp0_0≠bp0)))
 refine qz [(1,bp0)] rfl (Js (cs':=Ku.cs (Ku.mk l1) j) (Yo).siz rfl rfl (Qe.oneB k) z rfl rfl) ⟨fun _=>Qb,nofun,trivial⟩ ?_
 rintro _ w4 ⟨B,M4⟩
 have L:=M4.size
 refine kM M4<|Qi ?_
 have C:=(k.md M4 (Bt q (Jt f.o d.o)))
 have D:=(((((Kz.refl [(zp0_0,gp0_0),(1,bp0)] w).gr G1).gr G2).ka b (Qc (Qb:zp0_0=0∨(gp0_0=gp0_0∧zp0_0≠0)∨w.heap.size≤gp0_0))).md M4)
 cases hm
 exact⟨_,_,rfl,Ph rfl,j,u,y,rfl,C,⟨(Yp (A:=(fun x=>(x=gp0_0∧zp0_0≠0)∨w.heap.size≤x)) q Qb)⟩,B,D⟩
theorem Ba {p0 vp0_2 zp0_2 gp0_2 op0_2 vp0_4 zp0_4 gp0_4 op0_4 vp0_39 zp0_39 gp0_39 op0_39 r}(hm:Mw p0=some r){w:World}(aP:Rd w zp0_2 gp0_2 op0_2 18 vp0_2 (p0.Head.Items.map Zc.cs))(aQ:Rd w zp0_4 gp0_4 op0_4 2 vp0_4 (p0.Head.Points.map Qx.cs))(ai:Rd w zp0_39 gp0_39 op0_39 1 vp0_39 (p0.Data.map Xx)):
 Calls Tryz.prog 50 [.agg (Qo.cs p0 vp0_2 vp0_4 vp0_39).toArray].toArray w fun e w'=>∃ v,e=.returned v∧(∃ ur0_s zr0_s gr0_s,v=ur0_s∧Qe w' zr0_s gr0_s 5 1 ur0_s (r.map Xx)∧Xk (zr0_s=0∨w.heap.size≤gr0_s)∧Gr w w'):=by
 have H:=aP.lth
 have F:=aQ.lth
 have D:=ai.lth
 unfold Mw at hm
 refine Xu 120 Tryz.func50 rfl rfl rfl<|qs 2 rfl<|qe rfl (Xp (cs:=Qo.cs p0 vp0_2 vp0_4 vp0_39) rfl rfl) ?_
 rintro _ w1 ⟨b1,rfl,c5,bO,G1⟩
 have z4:=G1.size
 have dy:=bO.lt
 refine qm rfl<|qd 3 rfl<|qv rfl (Zk (cs:=Ku.cs (Ku.mk []) (.slice none 0 0)) Qor rfl rfl)<|qe rfl (Xp (cs:=Ku.cs (Ku.mk []) (.slice none 0 0)) rfl rfl) ?_
 rintro _ w2 ⟨b2,rfl,c6,bP,G2⟩
 have z6:=G2.size
 have dz:=bP.lt
 refine qm rfl<|qd 5 rfl<|qm rfl<|qv rfl (Qg Ih rfl) ?_
 have B8:=(bO.gr G2)
 refine qv rfl (Ql (v:=bv p0.Kind) Zj rfl B8 rfl)<|qv rfl (Eb Gs rfl) ?_
 obtain⟨x1,cp,hm⟩:=Qd hm
 refine qe rfl (eC Dv rfl (Dx cp bP (Za _ 0 5 1) ⟨Qb⟩)) ?_
 rintro _ w3 ⟨bQ,J,K,rfl,S,d,aR,K3⟩
 have z9:=K3.size
 have c7:=S.lth
 refine Qa<|Qj<|qs 3 rfl<|qv rfl (Qg Ih rfl) ?_
 have aS:=(B8.kz K3)
 refine qv rfl (Ql (v:=bv p0.Kind) Zj rfl aS rfl)<|qv rfl (Pb (p:=p0.Kind) (q:=2#8) rfl rfl)<|Qa<|Zv hm rfl (fun c1 hm=>?_) (fun c1 hm=>?_)
 · refine qs 5 rfl<|qm rfl<|qv rfl (Qg Ii rfl)<|qv rfl (Ql (v:=bv p0.Low) Zj rfl aS rfl)<|qv rfl (Eb Gs rfl) ?_
   obtain⟨x2,cq,hm⟩:=Qd hm
   refine qe rfl (eC Dv rfl (Dx cq aR S ⟨(Qc (Qf (b:=b2) d (.inl rfl)))⟩)) ?_
   rintro _ w4 ⟨bR,aT,aU,rfl,aq,C,bm,K4⟩
   have dA:=K4.size
   have c8:=aq.lth
   refine qd 4 rfl<|qm rfl<|qv rfl (Qg Qcf rfl) ?_
   have bS:=(aS.kz K4 (Qc (Qf (b:=b1) d (.inl rfl))))
   refine qv rfl (Ql (v:=wv p0.Number) Zh rfl bS rfl) ?_
   obtain⟨x3,cr,hm⟩:=Qd hm
   refine qe rfl (eC Dv rfl (Dx cr bm aq ⟨(Qc (Qf (b:=b2) C (Qf d (.inl rfl))))⟩)) ?_
   rintro _ w5 ⟨bT,aV,aW,rfl,ar,G,bn,K5⟩
   have dB:=K5.size
   have c9:=ar.lth
   refine qd 6 rfl<|qm rfl<|qv rfl (Qg Sy rfl) ?_
   have bU:=(bS.kz K5 (Qc (Qf (b:=b1) C (Qf d (.inl rfl)))))
   refine qv rfl (Ql (v:=vp0_39) Yo rfl bU rfl) ?_
   have Y1:=Gr.trans G1 G2
   have bV:=((((ai.gr Y1).kz K3 (Qc (Qm (b:=b2) D))).kz K4 (Jt ((Kh (Qv (A:=(fun x=>zp0_39=0∨x≠gp0_39)) d (.inl rfl) (fun x hx=>(Qc D.o)))):zp0_39=0∨J=0∨gp0_39≠K) (Qm (b:=b2) D))).kz K5 (Jt ((Kh (Qv (A:=(fun x=>zp0_39=0∨x≠gp0_39)) C (Qv (A:=(fun x=>zp0_39=0∨x≠gp0_39)) d (.inl rfl) (fun x hx=>(Qc D.o))) (fun x hx=>(Qc D.o)))):zp0_39=0∨aT=0∨gp0_39≠aU) (Qm (b:=b2) D)))
   refine qv rfl (Zx (l:=p0.Data) (c:=Xx) Tryz.underlying54 rfl bV)<|qv rfl (Yr Yw rfl) ?_
   obtain⟨x4,ct,hm⟩:=Qd hm
   refine qe rfl (eC Dv rfl (Dx ct bn ar ⟨(Qc (Qf (b:=b2) G (Qf C (Qf d (.inl rfl)))))⟩)) ?_
   rintro _ w6 ⟨aX,u,t,rfl,au,L,bo,K6⟩
   have dC:=K6.size
   have da:=au.lth
   refine Qa<|Qj<|dw [([]++zf u t)] [] (.leaf [(0,10),(1,10),(2,10),(3,10),(4,10),(5,10),(6,0),(7,10)]) ?_
   intro w7 G7 dD
   refine Xo<|dn 0 rfl rfl (Kp.refl ([]++zf u t) w7)<|qh 0 rfl rfl (Kp.refl ([]++zf u t) w7) (fun w hS=>Yy rfl rfl)<|qh 0 rfl rfl (Kp.refl ([]++zf u t) w7) (fun w hS=>Qg Uf rfl) ?_
   have cu:=(bo.gr G7)
   refine qh 0 rfl rfl (Kp.refl ([]++zf u t) w7) (fun w hS=>Ql (v:=aX) Yo rfl (Bx.kp cu hS (Qc (Qf (b:=b2) L (Qf G (Qf C (Qf d (.inl rfl))))))) rfl)<|qh 0 rfl rfl (Kp.refl ([]++zf u t) w7) (fun w hS=>Qg Sy rfl) ?_
   have cv:=((bU.kz K6 (Qc (Qf (b:=b1) G (Qf C (Qf d (.inl rfl)))))).gr G7)
   refine qh 0 rfl rfl (Kp.refl ([]++zf u t) w7) (fun w hS=>Ql (v:=vp0_39) Yo rfl (Bx.kp cv hS (Qc (Qf (b:=b1) L (Qf G (Qf C (Qf d (.inl rfl))))))) rfl) ?_
   have cw:=(au.gr G7)
   have cx:=((bV.kz K6 (Jt ((Kh (Qv (A:=(fun x=>zp0_39=0∨x≠gp0_39)) G (Qv (A:=(fun x=>zp0_39=0∨x≠gp0_39)) C (Qv (A:=(fun x=>zp0_39=0∨x≠gp0_39)) d (.inl rfl) (fun x hx=>(Qc D.o))) (fun x hx=>(Qc D.o))) (fun x hx=>(Qc D.o)))):zp0_39=0∨aV=0∨gp0_39≠aW) (Qm (b:=b2) D))).gr G7)
   obtain⟨l5,cy,hm⟩:=Qd hm
   refine qz [(u,t)] rfl (Wo (l:=x4.out) (m:=p0.Data) (c:=Xx) Tj rfl rfl cw cx cy (by decide)) ⟨fun _=>(Qc (Qb:u=0∨(t=t∧u≠0)∨w7.heap.size≤t)),trivial⟩ ?_
   rintro cz w8 ⟨cA,cB,cC,a0,dE,cD⟩
   have dF:=a0.size
   refine⟨Kz.ofKa a0,?_⟩
   have cE:=((Kp.refl ([]++zf u t) w7).ka a0 (Qc (Qb:u=0∨(t=t∧u≠0)∨w7.heap.size≤t)))
   refine dn 0 rfl rfl cE<|qb ?_
   have cF:=((((((((Gr.refl w).trans Y1).kz K3).kz K4 (Qc (Qv (A:=(fun x=>w.heap.size≤x)) d (.inl rfl)))).kz K5 (Qc (Qv (A:=(fun x=>w.heap.size≤x)) C (Qv (A:=(fun x=>w.heap.size≤x)) d (.inl rfl))))).kz K6 (Qc (Qv (A:=(fun x=>w.heap.size≤x)) G (Qv (A:=(fun x=>w.heap.size≤x)) C (Qv (A:=(fun x=>w.heap.size≤x)) d (.inl rfl)))))).trans G7).ka a0 (Qc (Qv (A:=(fun x=>w.heap.size≤x)) L (Qv (A:=(fun x=>w.heap.size≤x)) G (Qv (A:=(fun x=>w.heap.size≤x)) C (Qv (A:=(fun x=>w.heap.size≤x)) d (.inl rfl)))))))
   cases hm
   exact⟨_,_,rfl,Xj rfl (Qn rfl),cz,cA,cB,rfl,cC,⟨(Yp (A:=(fun x=>w.heap.size≤x)) cD (Qv (A:=(fun x=>w.heap.size≤x)) L (Qv (A:=(fun x=>w.heap.size≤x)) G (Qv (A:=(fun x=>w.heap.size≤x)) C (Qv (A:=(fun x=>w.heap.size≤x)) d (.inl rfl))))))⟩,cF⟩
 refine qu<|qs 5 rfl<|qm rfl<|qv rfl (Qg La rfl)<|qv rfl (Ql (v:=.int .i64 p0.Epoch) Xm rfl aS rfl) ?_
 refine qv rfl (Yr Yw rfl) ?_
 obtain⟨x6,cG,hm⟩:=Qd hm
 refine qe rfl (eC Dv rfl (Dx cG aR S ⟨(Qc (Qf (b:=b2) d (.inl rfl)))⟩)) ?_
 rintro _ w9 ⟨bW,T,U,rfl,av,f,bp,K9⟩
 have dG:=K9.size
 have db:=av.lth
 refine qd 7 rfl<|qm rfl<|qv rfl (Qg Vu rfl)<|qv rfl (Qg Wq rfl) ?_
 have bX:=(aS.kz K9 (Qc (Qf (b:=b1) d (.inl rfl))))
 refine qv rfl (Ql (v:=vp0_2) Wh rfl bX rfl) ?_
 have Y2:=Gr.trans G1 G2
 have bY:=(((aP.gr Y2).kz K3 (Qc (Qm (b:=b2) H))).kz K9 (Jt ((Kh (Qv (A:=(fun x=>zp0_2=0∨x≠gp0_2)) d (.inl rfl) (fun x hx=>(Qc H.o)))):zp0_2=0∨J=0∨gp0_2≠K) (Qm (b:=b2) H)))
 refine qv rfl (Zx (l:=p0.Head.Items) (c:=Zc.cs) Tryz.underlying50 rfl bY)<|qv rfl (Yr Yw rfl) ?_
 obtain⟨x7,cH,hm⟩:=Qd hm
 refine qe rfl (eC Dv rfl (Dx cH bp av ⟨(Qc (Qf (b:=b2) f (Qf d (.inl rfl))))⟩)) ?_
 rintro _ M ⟨ax,j,n,rfl,V,g,a1,ay⟩
 have dH:=ay.size
 have dc:=V.lth
 refine Qa<|Qj<|qs 5 rfl<|qv rfl (Qg Vu rfl)<|qv rfl (Qg Wq rfl) ?_
 have bZ:=(bX.kz ay (Qc (Qf (b:=b1) f (Qf d (.inl rfl)))))
 refine qv rfl (Ql (v:=vp0_2) Wh rfl bZ rfl) ?_
 have bq:=(bY.kz ay (Jt ((Kh (Qv (A:=(fun x=>zp0_2=0∨x≠gp0_2)) f (Qv (A:=(fun x=>zp0_2=0∨x≠gp0_2)) d (.inl rfl) (fun x hx=>(Qc H.o))) (fun x hx=>(Qc H.o)))):zp0_2=0∨T=0∨gp0_2≠U) (Qm (b:=b2) H)))
 refine qv rfl (Zx (l:=p0.Head.Items) (c:=Zc.cs) Tryz.underlying50 rfl bq)<|qm rfl<|Qa<|Xz ?_
 have cI:=(((((Gr.refl w).trans Y2).kz K3).kz K9 (Qc (Qv (A:=(fun x=>w.heap.size≤x)) d (.inl rfl)))).kz ay (Qc (Qv (A:=(fun x=>w.heap.size≤x)) f (Qv (A:=(fun x=>w.heap.size≤x)) d (.inl rfl)))))
 have cJ:=((((aQ.gr Y2).kz K3 (Qc (Qm (b:=b2) F))).kz K9 (Jt ((Kh (Qv (A:=(fun x=>zp0_4=0∨x≠gp0_4)) d (.inl rfl) (fun x hx=>(Qc F.o)))):zp0_4=0∨J=0∨gp0_4≠K) (Qm (b:=b2) F))).kz ay (Jt ((Kh (Qv (A:=(fun x=>zp0_4=0∨x≠gp0_4)) f (Qv (A:=(fun x=>zp0_4=0∨x≠gp0_4)) d (.inl rfl) (fun x hx=>(Qc F.o))) (fun x hx=>(Qc F.o)))):zp0_4=0∨T=0∨gp0_4≠U) (Qm (b:=b2) F)))
 have cK:=((((ai.gr Y2).kz K3 (Qc (Qm (b:=b2) D))).kz K9 (Jt ((Kh (Qv (A:=(fun x=>zp0_39=0∨x≠gp0_39)) d (.inl rfl) (fun x hx=>(Qc D.o)))):zp0_39=0∨J=0∨gp0_39≠K) (Qm (b:=b2) D))).kz ay (Jt ((Kh (Qv (A:=(fun x=>zp0_39=0∨x≠gp0_39)) f (Qv (A:=(fun x=>zp0_39=0∨x≠gp0_39)) d (.inl rfl) (fun x hx=>(Qc D.o))) (fun x hx=>(Qc D.o)))):zp0_39=0∨T=0∨gp0_39≠U) (Qm (b:=b2) D)))
 refine Kb (α:=Nat × Int × Ku × Value × Nat × Nat) ([5]++rg 56 21) (fun⟨n1,aj,az,vy13,zy13,gy13⟩=>[(56,.int .i64 aj)]) (fun⟨n1,aj,az,vy13,zy13,gy13⟩ wr=>(Xq (Qby p0) n1 (aj,az)=some r)∧Qe wr zy13 gy13 5 1 vy13 (az.out.map Xx)∧Xk (zy13=0∨(gy13=n∧j≠0)∨M.heap.size≤gy13)∧Bx wr b2 226 (Ku.cs az vy13)∧Kz [(1,b2),(j,n)] M wr) (fun⟨n1,aj,az,vy13,zy13,gy13⟩=>n1) ⟨Ze,0,x7,ax,j,n⟩ ?_ ?_ ?_
 · exact Qh
 · exact⟨hm,V,⟨Qb⟩,a1,Kz.refl _ _⟩
 clear hm;rintro⟨n1,aj,az,vy13,zy13,gy13⟩ dI ⟨hm,ak,h,al,aw⟩
 have dJ:=aw.size
 have aY:=ak.lth
 have dd:=al.lt
 have hb:=Kd hm;clear hm;obtain⟨n1,rfl,hm⟩:=hb
 generalize br:Xq (Qby p0) n1=de at hm
 unfold Qby at hm
 try dsimp only at hm
 refine qs 1 rfl<|qv rfl (Jb (a:=aj) (b:=(p0.Head.Items.length:Int)) rfl rfl)<|Qa<|Qj<|Zv hm rfl (fun c2 hm=>?_) (fun c2 hm=>?_)
 · refine qu<|Qj<|Xz<|qs 4 rfl ?_
   obtain⟨bs,bf,hm⟩:=Qd hm
   have b0:=(bq.kz aw (Jt ((Kh (Qv (A:=(fun x=>zp0_2=0∨x≠gp0_2)) g (Qv (A:=(fun x=>zp0_2=0∨x≠gp0_2)) f (Qv (A:=(fun x=>zp0_2=0∨x≠gp0_2)) d (.inl rfl) (fun x hx=>(Qc H.o))) (fun x hx=>(Qc H.o))) (fun x hx=>(Qc H.o)))):zp0_2=0∨j=0∨gp0_2≠n) (Qm (b:=b2) H)))
   refine qv rfl (Vm (i:=aj) Tryz.underlying50 (Wl).siz rfl b0 rfl bf)<|qv rfl (He Wl rfl b0 bf (by first|rfl|omega))<|qe rfl (Qz (cs:=Zc.cs (Zc.mk (Xs.mk 0 0) k0)) Ou rfl) ?_
   rintro _ dK ⟨b3,rfl,cL,bg,a2⟩
   have dL:=a2.size
   have df:=bg.lt
   refine qe rfl (Qr Wl rfl rfl rfl bg rfl rfl) ?_
   rintro _ dM ⟨bh,a3⟩
   have dN:=a3.size
   refine qd 6 rfl<|qm rfl<|qv rfl (Qg Sv rfl)<|qv rfl (Qg Bg rfl)<|qv rfl (Ql (v:=.int .i64 bs.Subset.Node) Xm rfl bh rfl) ?_
   refine qv rfl (Yr Yw rfl) ?_
   have cM:=((al.gr a2).md a3)
   have cN:=((ak.gr a2).md a3 (Qm aY))
   obtain⟨dO,b4,hm⟩:=Qd hm
   refine qe rfl (eC Dv rfl (Dx b4 cM cN ⟨(Qc (Qf (b:=b2) h (Qf g (Qf f (Qf d (.inl rfl))))))⟩)) ?_
   rintro _ dP ⟨bB,bC,bD,rfl,W,I,a4,bu⟩
   have dQ:=bu.size
   have dg:=W.lth
   refine qd 6 rfl<|qm rfl<|qv rfl (Qg Sv rfl)<|qv rfl (Qg Tw rfl) ?_
   have b5:=(bh.kz bu (Qc (Qm (b:=b3) aY)))
   refine qv rfl (Ql (v:=.int .i64 bs.Subset.Minus) Xm rfl b5 rfl)<|qv rfl (Yr Yw rfl) ?_
   obtain⟨dR,b6,hm⟩:=Qd hm
   refine qe rfl (eC Dv rfl (Dx b6 a4 W ⟨(Qc (Qf (b:=b2) I (Qf h (Qf g (Qf f (Qf d (.inl rfl)))))))⟩)) ?_
   rintro _ dS ⟨bE,bF,bG,rfl,Z,N,a5,bw⟩
   have dT:=bw.size
   have di:=Z.lth
   refine Qa<|qg 4 rfl<|qm rfl<|qv rfl (Qg Qlk rfl) ?_
   have cO:=(b5.kz bw (Qc (Qf (b:=b3) I (Qm aY))))
   refine qv rfl (Jm (vs:=kb bs.Box) Qy rfl cO rfl rfl) ?_
   obtain⟨cP,b7,hm⟩:=Qd hm
   refine qe rfl (eC Qff rfl (Qge b7 a5 Z ⟨(Qc (Qf (b:=b2) N (Qf I (Qf h (Qf g (Qf f (Qf d (.inl rfl))))))))⟩)) ?_
   rintro _ cQ ⟨aA,aB,aC,rfl,aa,aD,a6,b8⟩
   have dU:=b8.size
   have dj:=aa.lth
   refine Qi<|Zo<|Zg<|qg 2 rfl<|qv rfl (Zy (k:=.i64) (a:=aj) (b:=1) rfl rfl)<|qm rfl<|Qi ?_
   have K_56:Kz [(1,b2),(j,n)] M cQ:=(((((aw.gr a2).md a3).kz bu (Qc (Qv (A:=(fun x=>(x=n∧j≠0)∨M.heap.size≤x)) h Qb))).kz bw (Qc (Qv (A:=(fun x=>(x=n∧j≠0)∨M.heap.size≤x)) I (Qv (A:=(fun x=>(x=n∧j≠0)∨M.heap.size≤x)) h Qb)))).kz b8 (Qc (Qv (A:=(fun x=>(x=n∧j≠0)∨M.heap.size≤x)) N (Qv (A:=(fun x=>(x=n∧j≠0)∨M.heap.size≤x)) I (Qv (A:=(fun x=>(x=n∧j≠0)∨M.heap.size≤x)) h Qb)))))
   subst br
   exact⟨rfl,⟨n1,Qp (aj+1),cP,aA,aB,aC⟩,Qh,⟨hm,aa,⟨(Qv (A:=(fun x=>(x=n∧j≠0)∨M.heap.size≤x)) aD (Qv (A:=(fun x=>(x=n∧j≠0)∨M.heap.size≤x)) N (Qv (A:=(fun x=>(x=n∧j≠0)∨M.heap.size≤x)) I (Qv (A:=(fun x=>(x=n∧j≠0)∨M.heap.size≤x)) h Qb))))⟩,a6,K_56⟩,Nat.lt_succ_self _⟩
 refine Jl<|Zd<|Zd<|Jk<|Zg<|qs 5 rfl ?_
 refine qm rfl<|qv rfl (Qg Vu rfl)<|qv rfl (Qg Gb rfl) ?_
 have b9:=(bZ.kz aw (Qc (Qf (b:=b1) g (Qf f (Qf d (.inl rfl))))))
 refine qv rfl (Ql (v:=wv p0.Head.Base) Zh rfl b9 rfl) ?_
 obtain⟨dV,ca,hm⟩:=Qd hm
 refine qe rfl (eC Dv rfl (Dx ca al ak ⟨(Qc (Qf (b:=b2) h (Qf g (Qf f (Qf d (.inl rfl))))))⟩)) ?_
 rintro _ dW ⟨bH,O,P,rfl,ab,s,a7,aE⟩
 have dX:=aE.size
 have dk:=ab.lth
 refine qd 7 rfl<|qm rfl<|qv rfl (Qg Vu rfl)<|qv rfl (Qg Yk rfl) ?_
 have cb:=(b9.kz aE (Qc (Qf (b:=b1) h (Qf g (Qf f (Qf d (.inl rfl)))))))
 refine qv rfl (Ql (v:=vp0_4) Yi rfl cb rfl) ?_
 have cc:=((cJ.kz aw (Jt ((Kh (Qv (A:=(fun x=>zp0_4=0∨x≠gp0_4)) g (Qv (A:=(fun x=>zp0_4=0∨x≠gp0_4)) f (Qv (A:=(fun x=>zp0_4=0∨x≠gp0_4)) d (.inl rfl) (fun x hx=>(Qc F.o))) (fun x hx=>(Qc F.o))) (fun x hx=>(Qc F.o)))):zp0_4=0∨j=0∨gp0_4≠n) (Qm (b:=b2) F))).kz aE (Jt ((Kh (Qv (A:=(fun x=>zp0_4=0∨x≠gp0_4)) h (Qv (A:=(fun x=>zp0_4=0∨x≠gp0_4)) g (Qv (A:=(fun x=>zp0_4=0∨x≠gp0_4)) f (Qv (A:=(fun x=>zp0_4=0∨x≠gp0_4)) d (.inl rfl) (fun x hx=>(Qc F.o))) (fun x hx=>(Qc F.o))) (fun x hx=>(Qc F.o))) (fun x hx=>(Qc F.o)))):zp0_4=0∨zy13=0∨gp0_4≠gy13) (Qm (b:=b2) F)))
 refine qv rfl (Zx (l:=p0.Head.Points) (c:=Qx.cs) Tryz.underlying51 rfl cc)<|qv rfl (Yr Yw rfl) ?_
 obtain⟨cR,cd,hm⟩:=Qd hm
 refine qe rfl (eC Dv rfl (Dx cd a7 ab ⟨(Qc (Qf (b:=b2) s (Qf h (Qf g (Qf f (Qf d (.inl rfl)))))))⟩)) ?_
 rintro _ am ⟨aF,y,z,rfl,ac,B,a8,aG⟩
 have dY:=aG.size
 have dl:=ac.lth
 refine Qa<|Qj<|qs 5 rfl<|qv rfl (Qg Vu rfl)<|qv rfl (Qg Yk rfl) ?_
 have ce:=(cb.kz aG (Qc (Qf (b:=b1) s (Qf h (Qf g (Qf f (Qf d (.inl rfl))))))))
 refine qv rfl (Ql (v:=vp0_4) Yi rfl ce rfl) ?_
 have cf:=(cc.kz aG (Jt ((Kh (Qv (A:=(fun x=>zp0_4=0∨x≠gp0_4)) s (Qv (A:=(fun x=>zp0_4=0∨x≠gp0_4)) h (Qv (A:=(fun x=>zp0_4=0∨x≠gp0_4)) g (Qv (A:=(fun x=>zp0_4=0∨x≠gp0_4)) f (Qv (A:=(fun x=>zp0_4=0∨x≠gp0_4)) d (.inl rfl) (fun x hx=>(Qc F.o))) (fun x hx=>(Qc F.o))) (fun x hx=>(Qc F.o))) (fun x hx=>(Qc F.o))) (fun x hx=>(Qc F.o)))):zp0_4=0∨O=0∨gp0_4≠P) (Qm (b:=b2) F)))
 refine qv rfl (Zx (l:=p0.Head.Points) (c:=Qx.cs) Tryz.underlying51 rfl cf)<|qm rfl<|Qa<|Xz ?_
 have cS:=(((cI.kz aw (Qc (Qv (A:=(fun x=>w.heap.size≤x)) g (Qv (A:=(fun x=>w.heap.size≤x)) f (Qv (A:=(fun x=>w.heap.size≤x)) d (.inl rfl)))))).kz aE (Qc (Qv (A:=(fun x=>w.heap.size≤x)) h (Qv (A:=(fun x=>w.heap.size≤x)) g (Qv (A:=(fun x=>w.heap.size≤x)) f (Qv (A:=(fun x=>w.heap.size≤x)) d (.inl rfl))))))).kz aG (Qc (Qv (A:=(fun x=>w.heap.size≤x)) s (Qv (A:=(fun x=>w.heap.size≤x)) h (Qv (A:=(fun x=>w.heap.size≤x)) g (Qv (A:=(fun x=>w.heap.size≤x)) f (Qv (A:=(fun x=>w.heap.size≤x)) d (.inl rfl))))))))
 have dZ:=(((bq.kz aw (Jt ((Kh (Qv (A:=(fun x=>zp0_2=0∨x≠gp0_2)) g (Qv (A:=(fun x=>zp0_2=0∨x≠gp0_2)) f (Qv (A:=(fun x=>zp0_2=0∨x≠gp0_2)) d (.inl rfl) (fun x hx=>(Qc H.o))) (fun x hx=>(Qc H.o))) (fun x hx=>(Qc H.o)))):zp0_2=0∨j=0∨gp0_2≠n) (Qm (b:=b2) H))).kz aE (Jt ((Kh (Qv (A:=(fun x=>zp0_2=0∨x≠gp0_2)) h (Qv (A:=(fun x=>zp0_2=0∨x≠gp0_2)) g (Qv (A:=(fun x=>zp0_2=0∨x≠gp0_2)) f (Qv (A:=(fun x=>zp0_2=0∨x≠gp0_2)) d (.inl rfl) (fun x hx=>(Qc H.o))) (fun x hx=>(Qc H.o))) (fun x hx=>(Qc H.o))) (fun x hx=>(Qc H.o)))):zp0_2=0∨zy13=0∨gp0_2≠gy13) (Qm (b:=b2) H))).kz aG (Jt ((Kh (Qv (A:=(fun x=>zp0_2=0∨x≠gp0_2)) s (Qv (A:=(fun x=>zp0_2=0∨x≠gp0_2)) h (Qv (A:=(fun x=>zp0_2=0∨x≠gp0_2)) g (Qv (A:=(fun x=>zp0_2=0∨x≠gp0_2)) f (Qv (A:=(fun x=>zp0_2=0∨x≠gp0_2)) d (.inl rfl) (fun x hx=>(Qc H.o))) (fun x hx=>(Qc H.o))) (fun x hx=>(Qc H.o))) (fun x hx=>(Qc H.o))) (fun x hx=>(Qc H.o)))):zp0_2=0∨O=0∨gp0_2≠P) (Qm (b:=b2) H)))
 have d0:=(((cK.kz aw (Jt ((Kh (Qv (A:=(fun x=>zp0_39=0∨x≠gp0_39)) g (Qv (A:=(fun x=>zp0_39=0∨x≠gp0_39)) f (Qv (A:=(fun x=>zp0_39=0∨x≠gp0_39)) d (.inl rfl) (fun x hx=>(Qc D.o))) (fun x hx=>(Qc D.o))) (fun x hx=>(Qc D.o)))):zp0_39=0∨j=0∨gp0_39≠n) (Qm (b:=b2) D))).kz aE (Jt ((Kh (Qv (A:=(fun x=>zp0_39=0∨x≠gp0_39)) h (Qv (A:=(fun x=>zp0_39=0∨x≠gp0_39)) g (Qv (A:=(fun x=>zp0_39=0∨x≠gp0_39)) f (Qv (A:=(fun x=>zp0_39=0∨x≠gp0_39)) d (.inl rfl) (fun x hx=>(Qc D.o))) (fun x hx=>(Qc D.o))) (fun x hx=>(Qc D.o))) (fun x hx=>(Qc D.o)))):zp0_39=0∨zy13=0∨gp0_39≠gy13) (Qm (b:=b2) D))).kz aG (Jt ((Kh (Qv (A:=(fun x=>zp0_39=0∨x≠gp0_39)) s (Qv (A:=(fun x=>zp0_39=0∨x≠gp0_39)) h (Qv (A:=(fun x=>zp0_39=0∨x≠gp0_39)) g (Qv (A:=(fun x=>zp0_39=0∨x≠gp0_39)) f (Qv (A:=(fun x=>zp0_39=0∨x≠gp0_39)) d (.inl rfl) (fun x hx=>(Qc D.o))) (fun x hx=>(Qc D.o))) (fun x hx=>(Qc D.o))) (fun x hx=>(Qc D.o))) (fun x hx=>(Qc D.o)))):zp0_39=0∨O=0∨gp0_39≠P) (Qm (b:=b2) D)))
 refine Kb (α:=Nat × Int × Ku × Value × Nat × Nat) ([7]++rg 93 13) (fun⟨n2,an,aH,vy25,zy25,gy25⟩=>[(93,.int .i64 an)]) (fun⟨n2,an,aH,vy25,zy25,gy25⟩ wr=>(Xq (Qbz p0) n2 (an,aH)=some r)∧Qe wr zy25 gy25 5 1 vy25 (aH.out.map Xx)∧Xk (zy25=0∨(gy25=z∧y≠0)∨am.heap.size≤gy25)∧Bx wr b2 226 (Ku.cs aH vy25)∧Kz [(1,b2),(y,z)] am wr) (fun⟨n2,an,aH,vy25,zy25,gy25⟩=>n2) ⟨Ze,0,cR,aF,y,z⟩ ?_ ?_ ?_
 · exact Qh
 · exact⟨hm,ac,⟨Qb⟩,a8,Kz.refl _ _⟩
 clear hm;rintro⟨n2,an,aH,vy25,zy25,gy25⟩ d1 ⟨hm,ao,E,ap,aZ⟩
 have d2:=aZ.size
 have bi:=ao.lth
 have dp:=ap.lt
 have hb:=Kd hm;clear hm;obtain⟨n2,rfl,hm⟩:=hb
 generalize bx:Xq (Qbz p0) n2=dq at hm
 unfold Qbz at hm
 try dsimp only at hm
 refine qs 1 rfl<|qv rfl (Jb (a:=an) (b:=(p0.Head.Points.length:Int)) rfl rfl)<|Qa<|Qj<|Zv hm rfl (fun c3 hm=>?_) (fun c3 hm=>?_)
 · refine qu<|Qj<|Xz<|qs 4 rfl ?_
   obtain⟨cg,bj,hm⟩:=Qd hm
   have ch:=(cf.kz aZ (Jt ((Kh (Qv (A:=(fun x=>zp0_4=0∨x≠gp0_4)) B (Qv (A:=(fun x=>zp0_4=0∨x≠gp0_4)) s (Qv (A:=(fun x=>zp0_4=0∨x≠gp0_4)) h (Qv (A:=(fun x=>zp0_4=0∨x≠gp0_4)) g (Qv (A:=(fun x=>zp0_4=0∨x≠gp0_4)) f (Qv (A:=(fun x=>zp0_4=0∨x≠gp0_4)) d (.inl rfl) (fun x hx=>(Qc F.o))) (fun x hx=>(Qc F.o))) (fun x hx=>(Qc F.o))) (fun x hx=>(Qc F.o))) (fun x hx=>(Qc F.o))) (fun x hx=>(Qc F.o)))):zp0_4=0∨y=0∨gp0_4≠z) (Qm (b:=b2) F)))
   refine qv rfl (Vm (i:=an) Tryz.underlying51 (Vq).siz rfl ch rfl bj)<|qv rfl (He Vq rfl ch bj (by first|rfl|omega))<|qe rfl (Qz (cs:=Qx.cs (Qx.mk 0#64 0#64)) Fu rfl) ?_
   rintro _ d3 ⟨cT,rfl,cU,bk,a9⟩
   have d4:=a9.size
   have dr:=bk.lt
   refine qe rfl (Qr Vq rfl rfl rfl bk rfl rfl) ?_
   rintro _ d5 ⟨bl,ba⟩
   have d6:=ba.size
   refine qd 4 rfl<|qm rfl<|qv rfl (Qg Nb rfl)<|qv rfl (Ql (v:=wv cg.X) Zh rfl bl rfl) ?_
   have cV:=((ap.gr a9).md ba)
   have cW:=((ao.gr a9).md ba (Qm bi))
   obtain⟨d7,ci,hm⟩:=Qd hm
   refine qe rfl (eC Dv rfl (Dx ci cV cW ⟨(Qc (Qf (b:=b2) E (Qf B (Qf s (Qf h (Qf g (Qf f (Qf d (.inl rfl)))))))))⟩)) ?_
   rintro _ d8 ⟨bI,bJ,bK,rfl,ad,Q,bb,bz⟩
   have d9:=bz.size
   have ds:=ad.lth
   refine Qa<|qg 4 rfl<|qm rfl<|qv rfl (Qg Ug rfl) ?_
   have cX:=(bl.kz bz (Qc (Qm (b:=cT) bi)))
   refine qv rfl (Ql (v:=wv cg.Y) Zh rfl cX rfl) ?_
   obtain⟨cY,cj,hm⟩:=Qd hm
   refine qe rfl (eC Dv rfl (Dx cj bb ad ⟨(Qc (Qf (b:=b2) Q (Qf E (Qf B (Qf s (Qf h (Qf g (Qf f (Qf d (.inl rfl))))))))))⟩)) ?_
   rintro _ cZ ⟨aI,aJ,aK,rfl,ae,aL,bc,ck⟩
   have ea:=ck.size
   have dt:=ae.lth
   refine Qi<|Zo<|Zg<|qg 2 rfl<|qv rfl (Zy (k:=.i64) (a:=an) (b:=1) rfl rfl)<|qm rfl<|Qi ?_
   have K_83:Kz [(1,b2),(y,z)] am cZ:=((((aZ.gr a9).md ba).kz bz (Qc (Qv (A:=(fun x=>(x=z∧y≠0)∨am.heap.size≤x)) E Qb))).kz ck (Qc (Qv (A:=(fun x=>(x=z∧y≠0)∨am.heap.size≤x)) Q (Qv (A:=(fun x=>(x=z∧y≠0)∨am.heap.size≤x)) E Qb))))
   subst bx
   exact⟨rfl,⟨n2,Qp (an+1),cY,aI,aJ,aK⟩,Qh,⟨hm,ae,⟨(Qv (A:=(fun x=>(x=z∧y≠0)∨am.heap.size≤x)) aL (Qv (A:=(fun x=>(x=z∧y≠0)∨am.heap.size≤x)) Q (Qv (A:=(fun x=>(x=z∧y≠0)∨am.heap.size≤x)) E Qb)))⟩,bc,K_83⟩,Nat.lt_succ_self _⟩
 refine Jl<|Zd<|Zd<|Jk<|Zg<|qs 5 rfl ?_
 refine qm rfl<|qv rfl (Qg Vu rfl)<|qv rfl (Qg Gc rfl) ?_
 have cl:=(ce.kz aZ (Qc (Qf (b:=b1) B (Qf s (Qf h (Qf g (Qf f (Qf d (.inl rfl)))))))))
 refine qv rfl (Jm (vs:=kb p0.Head.Box) Qy rfl cl rfl rfl) ?_
 obtain⟨eb,cm,hm⟩:=Qd hm
 refine qe rfl (eC Qff rfl (Qge cm ap ao ⟨(Qc (Qf (b:=b2) E (Qf B (Qf s (Qf h (Qf g (Qf f (Qf d (.inl rfl)))))))))⟩)) ?_
 rintro _ ec ⟨bL,bM,bN,rfl,af,R,bd,bA⟩
 have ed:=bA.size
 have du:=af.lth
 refine qd 5 rfl<|qm rfl<|qv rfl (Qg Vu rfl)<|qv rfl (Qg Gz rfl) ?_
 have c0:=(cl.kz bA (Qc (Qf (b:=b1) E (Qf B (Qf s (Qf h (Qf g (Qf f (Qf d (.inl rfl))))))))))
 refine qv rfl (Jm (vs:=kb p0.Head.Check) Qy rfl c0 rfl rfl) ?_
 obtain⟨ee,cn,hm⟩:=Qd hm
 refine qe rfl (eC Qff rfl (Qge cn bd af ⟨(Qc (Qf (b:=b2) R (Qf E (Qf B (Qf s (Qf h (Qf g (Qf f (Qf d (.inl rfl))))))))))⟩)) ?_
 rintro _ ef ⟨ag,aM,aN,rfl,ah,aO,be,co⟩
 have eg:=co.size
 have dv:=ah.lth
 refine qd 5 rfl<|qm rfl<|qv rfl (Yy rfl rfl)<|qv rfl (Qg Uf rfl)<|qv rfl (Ql (v:=ag) Yo rfl be rfl) ?_
 refine qm rfl<|Qa<|Qs ?_
 have c4:=(((cS.kz aZ (Qc (Qv (A:=(fun x=>w.heap.size≤x)) B (Qv (A:=(fun x=>w.heap.size≤x)) s (Qv (A:=(fun x=>w.heap.size≤x)) h (Qv (A:=(fun x=>w.heap.size≤x)) g (Qv (A:=(fun x=>w.heap.size≤x)) f (Qv (A:=(fun x=>w.heap.size≤x)) d (.inl rfl))))))))).kz bA (Qc (Qv (A:=(fun x=>w.heap.size≤x)) E (Qv (A:=(fun x=>w.heap.size≤x)) B (Qv (A:=(fun x=>w.heap.size≤x)) s (Qv (A:=(fun x=>w.heap.size≤x)) h (Qv (A:=(fun x=>w.heap.size≤x)) g (Qv (A:=(fun x=>w.heap.size≤x)) f (Qv (A:=(fun x=>w.heap.size≤x)) d (.inl rfl)))))))))).kz co (Qc (Qv (A:=(fun x=>w.heap.size≤x)) R (Qv (A:=(fun x=>w.heap.size≤x)) E (Qv (A:=(fun x=>w.heap.size≤x)) B (Qv (A:=(fun x=>w.heap.size≤x)) s (Qv (A:=(fun x=>w.heap.size≤x)) h (Qv (A:=(fun x=>w.heap.size≤x)) g (Qv (A:=(fun x=>w.heap.size≤x)) f (Qv (A:=(fun x=>w.heap.size≤x)) d (.inl rfl)))))))))))
 cases hm
 exact⟨_,_,rfl,Xj rfl (Qn rfl),ag,aM,aN,rfl,ah,⟨(Qv (A:=(fun x=>w.heap.size≤x)) aO (Qv (A:=(fun x=>w.heap.size≤x)) R (Qv (A:=(fun x=>w.heap.size≤x)) E (Qv (A:=(fun x=>w.heap.size≤x)) B (Qv (A:=(fun x=>w.heap.size≤x)) s (Qv (A:=(fun x=>w.heap.size≤x)) h (Qv (A:=(fun x=>w.heap.size≤x)) g (Qv (A:=(fun x=>w.heap.size≤x)) f (Qv (A:=(fun x=>w.heap.size≤x)) d (.inl rfl))))))))))⟩,c4⟩
theorem Qp3 {p0 p1 r}(hm:Qep p0 p1=some r){w:World}:
 Calls Tryz.prog 159 [kv p0,kv p1].toArray w fun e w'=>∃ v,e=.returned v∧(v=kv r∧Gr w w'):=by
 unfold Qep at hm
 refine Xu 23 Tryz.func159 rfl rfl rfl<|qs 3 rfl<|qe rfl (Xp (cs:=kb p0) rfl rfl) ?_
 rintro _ w1 ⟨b1,rfl,D,g,G1⟩
 have z1:=G1.size
 have I:=g.lt
 refine qe rfl (Xp (cs:=kb p1) rfl rfl) ?_
 rintro _ w2 ⟨b2,rfl,E,j,G2⟩
 have z3:=G2.size
 have J:=j.lt
 refine qe rfl (Qz (cs:=kb k0) Jq rfl) ?_
 rintro _ w3 ⟨b3,rfl,F,d,G3⟩
 have z5:=G3.size
 have K:=d.lt
 refine Qa<|Qj<|qs 3 rfl ?_
 have B7:=((g.gr G2).gr G3)
 refine qv rfl (Qu Qy rfl B7 rfl) ?_
 have B8:=(j.gr G3)
 refine qv rfl (Qu Qy rfl B8 rfl)<|qv rfl (Qe0 (cf:=kb) (a:=p0) (b:=p1) Gx rfl rfl rfl rfl (fun h=>Dh h))<|Qa<|Zv hm rfl (fun c1 hm=>?_) (fun c1 hm=>?_)
 · refine qs 2 rfl<|qv rfl (Ho Hh)<|qe rfl (Qr Qy rfl rfl rfl d rfl rfl) ?_
   rintro _ w4 ⟨o,M4⟩
   have z9:=M4.size
   refine qb ?_
   have s:=(((((Gr.refl w).trans G1).trans G2).trans G3).md M4)
   cases hm
   exact⟨_,_,rfl,Xj rfl (Zf Qy rfl o rfl),rfl,s⟩
 refine qu<|Qj<|qs 1 rfl<|qm rfl<|Qa ?_
 refine Xz ?_
 have t:=((((Gr.refl w).trans G1).trans G2).trans G3)
 refine Kb (α:=Nat × Int × W2) ([5]++rg 10 12) (fun⟨n1,a3,a4⟩=>[(10,.int .i64 a3)]) (fun⟨n1,a3,a4⟩ wr=>(Xq (Qab p1) n1 (a3,a4)=some r)∧Bx wr b1 36 (kb a4)∧Kz [(1,b1)] w3 wr) (fun⟨n1,a3,a4⟩=>n1) ⟨Ze,0,p0⟩ ?_ ?_ ?_
 · exact Qh
 · exact⟨hm,B7,Kz.refl _ _⟩
 clear hm;rintro⟨n1,a3,a4⟩ w5 ⟨hm,c,K5⟩
 have L:=K5.size
 have G:=c.lt
 have hb:=Kd hm;clear hm;obtain⟨n1,rfl,hm⟩:=hb
 generalize f:Xq (Qab p1) n1=H at hm
 unfold Qab at hm
 try dsimp only at hm
 refine qs 1 rfl<|qv rfl (Jb (a:=a3) (b:=16) rfl rfl)<|Qa<|Qj<|Kg hm rfl (fun c2 hm=>?_) (fun c2 hm=>?_)
 · refine Jl<|Zd<|Zd<|Jk<|Zg<|qs 2 rfl ?_
   refine qv rfl (Qu Qy rfl c rfl) ?_
   have u:=(d.kz K5)
   refine qe rfl (Qr Qy rfl rfl rfl u rfl rfl) ?_
   rintro _ w8 ⟨x,M8⟩
   have M:=M8.size
   refine Qa<|Qs ?_
   have y:=((t.kz K5).md M8)
   cases hm
   exact⟨_,_,rfl,Xj rfl (Zf Qy rfl x rfl),rfl,y⟩
 refine qu<|Qj<|Xz<|qs 2 rfl<|qm rfl ?_
 refine qm rfl<|Qa<|dw [([b1]),([])] [(8,[1])] (.leaf [(0,10),(1,10),(2,11),(3,10),(4,10),(5,10),(6,10),(7,10),(8,0)]) ?_
 intro w6 G6 N
 refine Xo<|dm 0 rfl rfl ?_
 obtain⟨y5,l,hm⟩:=Qd hm
 refine dh 0 rfl rfl (fun w hS=>Te (i:=a3) (p:=a4) Tryz.underlying36 (Zj).siz rfl rfl l) ?_
 have m:=(c.gr G6)
 refine dh 1 rfl rfl (fun w hS=>Ci (off:=0) (p:=a4) (i:=a3) Zj rfl (Bx.kp m hS) rfl l (by omega))<|dm 0 rfl rfl ?_
 obtain⟨y6,n,hm⟩:=Qd hm
 refine dh 0 rfl rfl (fun w hS=>Te (i:=a3) (p:=p1) Tryz.underlying36 (Zj).siz rfl rfl n) ?_
 have z:=((B8.kz K5).gr G6)
 refine dh 0 rfl rfl (fun w hS=>Ci (off:=0) (p:=p1) (i:=a3) Zj rfl (Bx.kp z hS) rfl n (by omega))<|dh 0 rfl rfl (fun w hS=>Qo3 (a:=y5) (b:=y6) rfl rfl) ?_
 obtain⟨y7,A,hm⟩:=Qd hm
 refine dh 0 rfl rfl (fun w hS=>Te (i:=a3) (p:=a4) Tryz.underlying36 (Zj).siz rfl rfl A) ?_
 obtain⟨x8,B,hm⟩:=Qd hm
 refine qz [(1,b1)] rfl (Ia (off:=0) (p:=a4) (q:=x8) (i:=a3) (cs':=kb x8) (Zj).siz rfl rfl m rfl B rfl rfl rfl) ⟨fun _=>Qb,nofun,trivial⟩ ?_
 rintro _ w7 ⟨C,M7⟩
 have O:=M7.size
 refine kM M7<|Qi<|Zo<|Zg<|qg 2 rfl<|qv rfl (Zy (k:=.i64) (a:=a3) (b:=1) rfl rfl)<|qm rfl ?_
 refine Qi ?_
 have K_17:Kz [(1,b1)] w3 w7:=((K5.gr G6).md M7)
 subst f
 exact⟨rfl,⟨n1,Qp (a3+1),x8⟩,Qh,⟨hm,C,K_17⟩,Nat.lt_succ_self _⟩
theorem Qoy {p0 p1 p2 bp2 r}(hm:Qek p0 p1 p2=some r){w:World}(hbp2:Bx w bp2 36 (kb p2)):
 Calls Tryz.prog 158 [kv p0,kv p1,.pointer (some ⟨bp2,0,none⟩)].toArray w fun e w'=>∃ v,e=.returned v∧(v=kv r∧Gr w w'):=by
 have m:=hbp2.lt
 unfold Qek at hm
 refine Xu 11 Tryz.func158 rfl rfl rfl<|qs 3 rfl<|qe rfl (Xp (cs:=kb p0) rfl rfl) ?_
 rintro _ w1 ⟨b1,rfl,j,a,G1⟩
 have z2:=G1.size
 have n:=a.lt
 refine qe rfl (Xp (cs:=kb p1) rfl rfl) ?_
 rintro _ w2 ⟨b2,rfl,k,b,G2⟩
 have z4:=G2.size
 have o:=b.lt
 refine qe rfl (Qz (cs:=kb k0) Jq rfl) ?_
 rintro _ w3 ⟨b3,rfl,l,c,G3⟩
 have z6:=G3.size
 have p:=c.lt
 refine Qa<|Qj<|dw [([b3])] [] (.leaf [(0,10),(1,10),(2,10),(3,0),(4,0),(5,0)]) ?_
 intro w4 G4 q
 refine Xo ?_
 have Y1:=Gr.trans (Gr.trans (Gr.trans G1 G2) G3) G4
 have B8:=(hbp2.gr Y1)
 refine dh 0 rfl rfl (fun w hS=>Qu Qy rfl (Bx.kp B8 hS) rfl) ?_
 have Y2:=Gr.trans (Gr.trans G2 G3) G4
 have B9:=(a.gr Y2)
 refine dh 0 rfl rfl (fun w hS=>Qu Qy rfl (Bx.kp B9 hS) rfl) ?_
 have Y3:=Gr.trans G3 G4
 have d:=(b.gr Y3)
 refine dh 0 rfl rfl (fun w hS=>Qu Qy rfl (Bx.kp d hS) rfl) ?_
 obtain⟨x1,f,hm⟩:=Qd hm
 refine qz [] rfl (eC Qqb rfl (Qp3 f)) ⟨fun _=>Qb,trivial⟩ ?_
 rintro _ w5 ⟨rfl,G5⟩
 have s:=G5.size
 refine kG G5<|qz [] rfl (eC Mm rfl (Al p2 x1 _)) ⟨fun _=>Qb,trivial⟩ ?_
 rintro _ w6 ⟨rfl,G6⟩
 have t:=G6.size
 refine kG G6 ?_
 have g:=(((c.gr G4).gr G5).gr G6)
 refine qz [(1,b3)] rfl (Qr Qy rfl rfl rfl g rfl rfl) ⟨fun _=>Qb,trivial⟩ ?_
 rintro _ w7 ⟨h,M7⟩
 have u:=M7.size
 refine kM M7<|Qa<|Qs ?_
 have i:=(((((Gr.refl w).trans Y1).trans G5).trans G6).md M7)
 cases hm
 exact⟨_,_,rfl,Xj rfl (Zf Qy rfl h rfl),rfl,i⟩
theorem Qp0 {p0 p1 g vp1 zp1 gp1 op1 bp2_0 r}(hm:Qem p0 p1 g=some r){w:World}(m:Rd w zp1 gp1 op1 1 vp1 (p1.map Xx))(hbp2_0:Bx w bp2_0 36 (kb g)):
 Calls Tryz.prog 157 [kv p0,vp1,.func (.func 158) [].toArray [.pointer (some ⟨bp2_0,0,none⟩)].toArray].toArray w fun e w'=>∃ v,e=.returned v∧(v=kv r∧Gr w w'):=by
 have D:=m.lth
 have aa:=hbp2_0.lt
 unfold Qem at hm
 refine Xu 21 Tryz.func157 rfl rfl rfl<|qs 2 rfl<|qe rfl (Xp (cs:=kb p0) rfl rfl) ?_
 rintro _ w1 ⟨b1,rfl,S,q,G1⟩
 have z3:=G1.size
 have ab:=q.lt
 refine qe rfl (Qz (cs:=kb k0) Jq rfl) ?_
 rintro _ w2 ⟨b2,rfl,T,t,G2⟩
 have z5:=G2.size
 have ac:=t.lt
 refine Qa<|Qj<|Xz ?_
 have X7:=(((Gr.refl w).trans G1).trans G2)
 have B8:=((m.gr G1).gr G2)
 have B9:=(q.gr G2)
 refine Kb (α:=Nat × List (BitVec 8) × W2 × Value × Nat × Nat × Nat) ([1]++rg 7 13) (fun⟨n1,a4,a6,vy5,zy5,gy5,oy5⟩=>[(1,vy5)]) (fun⟨n1,a4,a6,vy5,zy5,gy5,oy5⟩ wr=>(Xq (Qa8 g) n1 (a4,a6)=some r)∧Rd wr zy5 gy5 oy5 1 vy5 (a4.map Xx)∧Xk (zy5=0∨(gy5=gp1∧zp1≠0)∨w2.heap.size≤gy5)∧Bx wr b1 36 (kb a6)∧Kz [(1,b1)] w2 wr) (fun⟨n1,a4,a6,vy5,zy5,gy5,oy5⟩=>n1) ⟨Ze,p1,p0,vp1,zp1,gp1,op1⟩ ?_ ?_ ?_
 · exact Qh
 · exact⟨hm,B8,⟨Qb⟩,B9,Kz.refl _ _⟩
 clear hm;rintro⟨n1,a4,a6,vy5,zy5,gy5,oy5⟩ w3 ⟨hm,d,i,f,K3⟩
 have ad:=K3.size
 have u:=d.lth
 have U:=f.lt
 have hb:=Kd hm;clear hm;obtain⟨n1,rfl,hm⟩:=hb
 generalize j:Xq (Qa8 g) n1=V at hm
 unfold Qa8 at hm
 try dsimp only at hm
 refine Qj<|qs 3 rfl<|qm rfl<|qv rfl (Zx (l:=a4) (c:=Xx) Tryz.underlying54 rfl d)<|qv rfl (Ve (a:=(a4.length:Int)) (b:=0) rfl rfl)<|Qa ?_
 refine Kg hm rfl (fun c1 hm=>?_) (fun c1 hm=>?_)
 · refine Jl<|Zd<|Zd<|Jk<|Zg<|qs 2 rfl ?_
   refine qv rfl (Qu Qy rfl f rfl) ?_
   have E:=(t.kz K3)
   refine qe rfl (Qr Qy rfl rfl rfl E rfl rfl) ?_
   rintro _ w8 ⟨F,M8⟩
   have ae:=M8.size
   refine Qa<|Qs ?_
   have G:=((X7.kz K3).md M8)
   cases hm
   exact⟨_,_,rfl,Xj rfl (Zf Qy rfl F rfl),rfl,G⟩
 refine qu<|Xz<|qs 1 rfl<|qe rfl (Qz (cs:=kb k0) Jq rfl) ?_
 rintro _ w4 ⟨b4,rfl,W,k,G4⟩
 have af:=G4.size
 have X:=k.lt
 refine qd 6 rfl<|qm rfl ?_
 have y:=Qi0 (o:=0) (p:=k0) k rfl
 have Y:=y.lth
 refine qv rfl (Qir (n:=16) (l:=0) (h:=16) Tryz.underlying36 (Zj).siz rfl rfl rfl (by decide) (by decide) (by decide))<|qm rfl ?_
 have z:=(d.gr G4)
 refine qe rfl (Qs9 (off:=0) (p:=k0) (s:=a4) (cs':=kb (Dl (Gq (Jz k0) a4))) Tj rfl rfl k rfl z rfl rfl) ?_
 rintro _ w5 ⟨rfl,H,M5⟩
 have ag:=M5.size
 obtain⟨l7,I,hm⟩:=Qd hm
 have J:=(z.md M5 (Qm u))
 refine qt rfl (Qe5 (P:=Tryz.prog) (lo:=Es (Jz k0) a4) (hi:=(a4.length:Int)) (l:=a4) (c:=Xx) Tryz.underlying54 (Zj).siz rfl J ⟨_,rfl⟩ rfl I) ?_
 rintro K L B
 have Z:=B.lth
 refine qm rfl<|Qa<|qg 5 rfl<|qm rfl ?_
 have C:=((f.gr G4).md M5)
 refine qv rfl (Qu Qy rfl C rfl)<|qv rfl (Qu Qy rfl H rfl) ?_
 have M:=(((((hbp2_0.gr G1).gr G2).kz K3).gr G4).md M5)
 obtain⟨x8,N,hm⟩:=Qd hm
 refine qe rfl (Vk Qqa rfl rfl (Qoy N M)) ?_
 rintro _ w6 ⟨rfl,G6⟩
 have ah:=G6.size
 have O:=(C.gr G6)
 refine qe rfl (Qr Qy rfl rfl rfl O rfl rfl) ?_
 rintro _ w7 ⟨Q,M7⟩
 have ai:=M7.size
 refine Qi<|Zo ?_
 have K_27:Kz [(1,b1)] w2 w7:=((((K3.gr G4).md M5).gr G6).md M7)
 have R:=((B.gr G6).md M7 (Qf i (Qm D)))
 subst j
 exact⟨rfl,⟨n1,l7,x8,K,zy5,gy5,L⟩,Qh,⟨hm,R,⟨(Qv (A:=(fun x=>(x=gp1∧zp1≠0)∨w2.heap.size≤x)) i Qb)⟩,Q,K_27⟩,Nat.lt_succ_self _⟩
theorem Sb {p0 p1 vp1 zp1 gp1 op1 r}(hm:Eo p0 p1=some r){w:World}(f:Rd w zp1 gp1 op1 1 vp1 (p1.map Xx)):
 Calls Tryz.prog 67 [kv p0,vp1].toArray w fun e w'=>∃ v,e=.returned v∧(v=.tuple [kv r.1,.int .i64 r.2].toArray∧Gr w w'):=by
 have i:=f.lth
 unfold Eo at hm
 refine Xu 20 Tryz.func67 rfl rfl rfl<|qs 3 rfl<|qe rfl (Xp (cs:=kb p0) rfl rfl) ?_
 rintro _ w1 ⟨b1,rfl,t,g,G1⟩
 have z2:=G1.size
 have z:=g.lt
 refine qe rfl (Qz (cs:=kb k0) Jq rfl) ?_
 rintro _ w2 ⟨b2,rfl,u,d,G2⟩
 have z4:=G2.size
 have A:=d.lt
 refine qm rfl<|Qa<|Qj<|qs 3 rfl<|qm rfl ?_
 have B6:=((f.gr G1).gr G2)
 refine qv rfl (Zx (l:=p1) (c:=Xx) Tryz.underlying54 rfl B6)<|qv rfl (Ve (a:=(p1.length:Int)) (b:=16384) rfl rfl)<|Qa<|Zv hm rfl (fun c1 hm=>?_) (fun c1 hm=>?_)
 · refine qs 3 rfl<|qv rfl (Ho Hh)<|qe rfl (Qr Qy rfl rfl rfl d rfl rfl) ?_
   rintro _ w3 ⟨j,M3⟩
   have z7:=M3.size
   refine qm rfl<|qb ?_
   have X8:=((((Gr.refl w).trans G1).trans G2).md M3)
   cases hm
   exact⟨_,_,rfl,Xy rfl (Zf Qy rfl j rfl) (Qn rfl),rfl,X8⟩
 refine qu<|qs 7 rfl ?_
 have B9:=(g.gr G2)
 refine qv rfl (Qu Qy rfl B9 rfl)<|qm rfl<|qv rfl (Zx (l:=p1) (c:=Xx) Tryz.underlying54 rfl B6)<|qv rfl (Yr Yw rfl)<|qe rfl (eC Wn rfl (Wm p0 (Xr 2#8) (Wf _) (Wc _) (wd (p1.length:Int)) _)) ?_
 rintro _ w4 ⟨rfl,G4⟩
 have B:=G4.size
 refine qe rfl (Qz (cs:=kb k0) Jq rfl) ?_
 rintro _ w5 ⟨b5,rfl,x,h,G5⟩
 have C:=G5.size
 have y:=h.lt
 refine qe rfl (Qr Qy rfl rfl rfl h rfl rfl) ?_
 rintro _ w6 ⟨k,M6⟩
 have D:=M6.size
 refine qd 6 rfl<|qv rfl (Qu Qy rfl k rfl)<|qm rfl<|qv rfl (Da rfl rfl) ?_
 have Y1:=Gr.trans G4 G5
 have m:=((B6.gr Y1).md M6 (Qm i))
 have n:=((B9.gr Y1).md M6)
 obtain⟨x1,o,hm⟩:=Qd hm
 refine qe rfl (eC Qq9 rfl (Qp0 o m n)) ?_
 rintro _ w7 ⟨rfl,G7⟩
 have E:=G7.size
 have p:=(((d.gr Y1).md M6).gr G7)
 refine qe rfl (Qr Qy rfl rfl rfl p rfl rfl) ?_
 rintro _ w8 ⟨q,M8⟩
 have F:=M8.size
 refine qm rfl<|Qa<|Qs ?_
 have s:=(((((((Gr.refl w).trans G1).trans G2).trans Y1).md M6).trans G7).md M8)
 cases hm
 exact⟨_,_,rfl,Xy rfl (Zf Qy rfl q rfl) (Qn rfl),rfl,s⟩
theorem Ql6 {p0 p1 vp1_2 zp1_2 gp1_2 op1_2 vp1_4 zp1_4 gp1_4 op1_4 vp1_39 zp1_39 gp1_39 op1_39 r}(hm:Au p0 p1=some r){w:World}(f:Rd w zp1_2 gp1_2 op1_2 18 vp1_2 (p1.Head.Items.map Zc.cs))(g:Rd w zp1_4 gp1_4 op1_4 2 vp1_4 (p1.Head.Points.map Qx.cs))(a:Rd w zp1_39 gp1_39 op1_39 1 vp1_39 (p1.Data.map Xx)):
 Calls Tryz.prog 48 [kv p0,.agg (Qo.cs p1 vp1_2 vp1_4 vp1_39).toArray].toArray w fun e w'=>∃ v,e=.returned v∧(v=kv r∧Gr w w'):=by
 have a1:=f.lth
 have a3:=g.lth
 have a4:=a.lth
 unfold Au at hm
 refine Xu 19 Tryz.func48 rfl rfl rfl<|qs 3 rfl<|qe rfl (Xp (cs:=kb p0) rfl rfl) ?_
 rintro _ w1 ⟨b1,rfl,aQ,P,G1⟩
 have z4:=G1.size
 have a5:=P.lt
 refine qe rfl (Xp (cs:=Qo.cs p1 vp1_2 vp1_4 vp1_39) rfl rfl) ?_
 rintro _ w2 ⟨b2,rfl,aR,Q,G2⟩
 have z6:=G2.size
 have a6:=Q.lt
 refine qe rfl (Qz (cs:=kb k0) Jq rfl) ?_
 rintro _ w3 ⟨b3,rfl,aS,R,G3⟩
 have z8:=G3.size
 have a7:=R.lt
 refine Qa ?_
 have Y1:=Gr.trans (Gr.trans G1 G2) G3
 have af:=((Gr.refl w).trans Y1)
 refine qj (β:=W2 × Nat) (rg 5 13) (fun⟨a2,bq1⟩=>[(5,.pointer (some ⟨bq1,0,none⟩))]) (fun⟨a2,bq1⟩ wr=>(Qg7 a2=some r)∧Bx wr bq1 36 (kb a2)∧w3.heap.size≤bq1∧Kz [] w3 wr) ?_ ?_
 · refine dw [([])] [] (.fork [(0,10),(1,10),(2,10),(3,10),(5,10)] (.fork [(4,0)] (.fork [(6,0)] (.leaf [(7,0),(8,10),(9,10),(10,10),(11,0),(12,0),(13,10)]) (.leaf [(11,0),(7,0),(8,10),(9,10),(10,10),(12,0),(13,10)])) (.leaf [(11,0),(6,0),(7,0),(8,10),(9,10),(10,10),(12,0),(13,10)])) (.leaf [(11,0),(4,0),(6,0),(7,0),(8,10),(9,10),(10,10),(12,0),(13,10)])) ?_
   intro w6 G6 a8
   refine Zt ?_
   have Y2:=Gr.trans (Gr.trans G2 G3) G6
   have ag:=(P.gr Y2)
   refine dh 0 rfl rfl (fun w hS=>Qu Qy rfl (Bx.kp ag hS) rfl)<|dh 0 rfl rfl (fun w hS=>Qg La rfl) ?_
   have Y3:=Gr.trans G3 G6
   have S:=(Q.gr Y3)
   refine dh 0 rfl rfl (fun w hS=>Ql (v:=.int .i64 p1.Epoch) Xm rfl (Bx.kp S hS) rfl)<|dh 0 rfl rfl (fun w hS=>Yr Yw rfl)<|dh 0 rfl rfl (fun w hS=>Qu Zl rfl (Bx.kp S hS) rfl)<|Zs ?_ ?_
   · refine Zt<|qz [] rfl (eC Wn rfl (Wm p0 (Xr 52#8) (Wf _) (Wc _) (wd p1.Epoch) _)) ⟨fun _=>Qb,trivial⟩ ?_
     rintro _ w7 ⟨rfl,G7⟩
     have a9:=G7.size
     refine kG G7<|Zs ?_ ?_
     · refine Zt ?_
       have Y4:=Gr.trans (Gr.trans Y1 G6) G7
       have ah:=(f.gr Y4)
       have ai:=(g.gr Y4)
       have aj:=(a.gr Y4)
       obtain⟨x3,ak,hm⟩:=Qd hm
       refine qz [] rfl (eC Rt rfl (Ba ak ah ai aj)) ⟨fun _=>Qb,trivial⟩ ?_
       rintro T w8 ⟨_,U,V,rfl,b,W,G8⟩
       have ba:=G8.size
       have aT:=b.lth
       refine kG G8<|Zs ?_ ?_
       · refine Xo ?_
         obtain⟨x4,al,hm⟩:=Qd hm
         refine qz [] rfl (eC Sl rfl (Sb al (Qe.rd b))) ⟨fun _=>Qb,trivial⟩ ?_
         rintro _ w9 ⟨rfl,G9⟩
         have bb:=G9.size
         refine kG G9 ?_
         have j:=((((Kp.refl ([]) w6).gr G7).gr G8).gr G9)
         refine dn 0 rfl rfl j<|dn 0 rfl rfl j<|dn 0 rfl rfl j<|qz [] rfl (Qz (cs:=kb k0) Jq rfl) ⟨fun _=>Qb,trivial⟩ ?_
         rintro _ bc ⟨X,rfl,am,D,k⟩
         have bd:=k.size
         have aU:=D.lt
         refine kG k<|qz [(1,X)] rfl (Qr Qy rfl rfl rfl D rfl rfl) ⟨fun _=>Qb,trivial⟩ ?_
         rintro _ be ⟨Y,l⟩
         have bf:=l.size
         refine kM l ?_
         have an:=((j.gr k).md l)
         refine dn 0 rfl rfl an<|Qi ?_
         exact⟨rfl,⟨x4.1,X⟩,Qh,hm,Y,(by omega),((((((Xi.gr G6).gr G7).gr G8).gr G9).gr k).md l)⟩
       refine Xo<|qz [] rfl (Qz (cs:=kb k0) Jq rfl) ⟨fun _=>Qb,trivial⟩ ?_
       rintro _ bg ⟨Z,rfl,ao,E,m⟩
       have bh:=m.size
       have aV:=E.lt
       refine kG m ?_
       have ap:=(b.gr m)
       obtain⟨x5,aq,hm⟩:=Qd hm
       refine qz [] rfl (eC Sl rfl (Sb aq (Qe.rd ap))) ⟨fun _=>Qb,trivial⟩ ?_
       rintro _ bi ⟨rfl,n⟩
       have bj:=n.size
       refine kG n ?_
       have Y5:=Gr.trans (Gr.trans (Gr.trans G7 G8) m) n
       have o:=((Kp.refl ([]) w6).gr Y5)
       refine dn 0 rfl rfl o<|dn 0 rfl rfl o<|dn 0 rfl rfl o ?_
       have ar:=(E.gr n)
       refine qz [(1,Z)] rfl (Qr Qy rfl rfl rfl ar rfl rfl) ⟨fun _=>Qb,trivial⟩ ?_
       rintro _ bk ⟨aa,p⟩
       have bl:=p.size
       refine kM p ?_
       have au:=(o.md p)
       refine dn 0 rfl rfl au<|Qi ?_
       exact⟨rfl,⟨x5.1,Z⟩,Qh,hm,aa,(by omega),(((Xi.gr G6).gr Y5).md p)⟩
     refine Xo<|qz [] rfl (Qz (cs:=kb k0) Jq rfl) ⟨fun _=>Qb,trivial⟩ ?_
     rintro _ bm ⟨ab,rfl,av,F,q⟩
     have bn:=q.size
     have aW:=F.lt
     refine kG q ?_
     have Y6:=Gr.trans (Gr.trans (Gr.trans Y1 G6) G7) q
     have aw:=(f.gr Y6)
     have ax:=(g.gr Y6)
     have ay:=(a.gr Y6)
     obtain⟨x6,az,hm⟩:=Qd hm
     refine qz [] rfl (eC Rt rfl (Ba az aw ax ay)) ⟨fun _=>Qb,trivial⟩ ?_
     rintro H bo ⟨_,I,J,rfl,c,K,s⟩
     have bp:=s.size
     have aX:=c.lth
     refine kG s ?_
     obtain⟨x7,aA,hm⟩:=Qd hm
     refine qz [] rfl (eC Sl rfl (Sb aA (Qe.rd c))) ⟨fun _=>Qb,trivial⟩ ?_
     rintro _ bq ⟨rfl,t⟩
     have br:=t.size
     refine kG t ?_
     have Y7:=Gr.trans (Gr.trans (Gr.trans G7 q) s) t
     have u:=((Kp.refl ([]) w6).gr Y7)
     refine dn 0 rfl rfl u<|dn 0 rfl rfl u<|dn 0 rfl rfl u ?_
     have aB:=((F.gr s).gr t)
     refine qz [(1,ab)] rfl (Qr Qy rfl rfl rfl aB rfl rfl) ⟨fun _=>Qb,trivial⟩ ?_
     rintro _ bs ⟨ac,x⟩
     have bu:=x.size
     refine kM x ?_
     have aC:=(u.md x)
     refine dn 0 rfl rfl aC<|Qi ?_
     exact⟨rfl,⟨x7.1,ab⟩,Qh,hm,ac,(by omega),(((Xi.gr G6).gr Y7).md x)⟩
   refine Xo<|qz [] rfl (Qz (cs:=kb k0) Jq rfl) ⟨fun _=>Qb,trivial⟩ ?_
   rintro _ bw ⟨ad,rfl,aD,G,y⟩
   have bx:=y.size
   have aY:=G.lt
   refine kG y<|qz [] rfl (eC Wn rfl (Wm p0 (Xr 52#8) (Wf _) (Wc _) (wd p1.Epoch) _)) ⟨fun _=>Qb,trivial⟩ ?_
   rintro _ bz ⟨rfl,h⟩
   have bA:=h.size
   refine kG h ?_
   have Y8:=Gr.trans (Gr.trans (Gr.trans Y1 G6) y) h
   have aE:=(f.gr Y8)
   have aF:=(g.gr Y8)
   have aG:=(a.gr Y8)
   obtain⟨x8,aH,hm⟩:=Qd hm
   refine qz [] rfl (eC Rt rfl (Ba aH aE aF aG)) ⟨fun _=>Qb,trivial⟩ ?_
   rintro L bB ⟨_,M,N,rfl,d,O,z⟩
   have bC:=z.size
   have aZ:=d.lth
   refine kG z ?_
   obtain⟨x9,aI,hm⟩:=Qd hm
   refine qz [] rfl (eC Sl rfl (Sb aI (Qe.rd d))) ⟨fun _=>Qb,trivial⟩ ?_
   rintro _ bD ⟨rfl,A⟩
   have bE:=A.size
   refine kG A ?_
   have Y9:=Gr.trans (Gr.trans (Gr.trans y h) z) A
   have B:=((Kp.refl ([]) w6).gr Y9)
   refine dn 0 rfl rfl B<|dn 0 rfl rfl B<|dn 0 rfl rfl B ?_
   have aJ:=Gr.trans (Gr.trans h z) A
   have aK:=(G.gr aJ)
   refine qz [(1,ad)] rfl (Qr Qy rfl rfl rfl aK rfl rfl) ⟨fun _=>Qb,trivial⟩ ?_
   rintro _ bF ⟨ae,C⟩
   have bG:=C.size
   refine kM C ?_
   have aL:=(B.md C)
   refine dn 0 rfl rfl aL<|Qi ?_
   exact⟨rfl,⟨x9.1,ad⟩,Qh,hm,ae,(by omega),(((Xi.gr G6).gr Y9).md C)⟩
 clear hm;rintro⟨a2,bq1⟩ w4 ⟨hm,i,aM,K4⟩
 have bH:=K4.size
 have a0:=i.lt
 unfold Qg7 at hm
 refine qs 2 rfl<|qv rfl (Qu Qy rfl i rfl) ?_
 have aN:=(R.kz K4)
 refine qe rfl (Qr Qy rfl rfl rfl aN rfl rfl) ?_
 rintro _ w5 ⟨aO,M5⟩
 have bI:=M5.size
 refine Qa<|Qs ?_
 have aP:=((af.kz K4).md M5)
 cases hm
 exact⟨_,_,rfl,Xj rfl (Zf Qy rfl aO rfl),rfl,aP⟩
theorem Tq {p0 p1 p2 p3 vp3 zp3 gp3 op3 r}(hm:Ms p0 p1 p2 p3=some r){w:World}(B:Rd w zp3 gp3 op3 1 vp3 (p3.map ic)):
 Calls Tryz.prog 12 [kv p0,.agg (Xn.cs p1).toArray,.int .i64 p2,vp3].toArray w fun e w'=>∃ v,e=.returned v∧(∃ ur0_2 zr0_2 gr0_2 ur0_4 zr0_4 gr0_4 ur0_39 zr0_39 gr0_39,v=.tuple [.agg (Qo.cs r.1 ur0_2 ur0_4 ur0_39).toArray,.int .i64 r.2].toArray∧Qe w' zr0_2 gr0_2 195 18 ur0_2 (r.1.Head.Items.map Zc.cs)∧Xk (zr0_2=0∨w.heap.size≤gr0_2)∧Qe w' zr0_4 gr0_4 65 2 ur0_4 (r.1.Head.Points.map Qx.cs)∧Xk (zr0_4=0∨w.heap.size≤gr0_4)∧Qe w' zr0_39 gr0_39 5 1 ur0_39 (r.1.Data.map Xx)∧Xk (zr0_39=0∨w.heap.size≤gr0_39)∧Xk (zr0_4=0∨zr0_2=0∨gr0_4≠gr0_2)∧Xk (zr0_39=0∨zr0_2=0∨gr0_39≠gr0_2)∧Xk (zr0_39=0∨zr0_4=0∨gr0_39≠gr0_4)∧Gr w w'):=by
 have ar:=B.lth
 unfold Ms at hm
 refine Xu 35 Tryz.func12 rfl rfl rfl<|qs 4 rfl<|qe rfl (Xp (cs:=kb p0) rfl rfl) ?_
 rintro _ w1 ⟨b1,rfl,aj,C,G1⟩
 have z2:=G1.size
 have au:=C.lt
 refine qe rfl (Xp (cs:=Xn.cs p1) rfl rfl) ?_
 rintro _ w2 ⟨b2,rfl,ak,D,G2⟩
 have z4:=G2.size
 have av:=D.lt
 refine qe rfl (Qz (cs:=Qo.cs (Qo.mk 0#8 0 (Qq.mk [] 0#64 [] k0 k0) 0#8 0#64 [] k0) (.slice none 0 0) (.slice none 0 0) (.slice none 0 0)) Km rfl) ?_
 rintro _ w3 ⟨b3,rfl,al,y,G3⟩
 have z6:=G3.size
 have aw:=y.lt
 refine qm rfl<|qd 11 rfl ?_
 have Y1:=Gr.trans G2 G3
 have B8:=(C.gr Y1)
 refine qv rfl (Qu Qy rfl B8 rfl) ?_
 have B9:=(D.gr G3)
 refine qv rfl (Qu Jr rfl B9 rfl)<|qn 2 rfl ?_
 have S:=((B.gr G1).gr Y1)
 obtain⟨x1,T,hm⟩:=Qd hm
 refine qe rfl (eC Qqf rfl (Qrm T S)) ?_
 rintro _ w4 ⟨c,l,m,d,n,p,rfl,f,g,h,i,E,G4⟩
 have ax:=G4.size
 have q:=f.lth
 have s:=h.lth
 refine qn 3 rfl<|qe rfl (Qz (cs:=Qq.cs (Qq.mk [] 0#64 [] k0 k0) (.slice none 0 0) (.slice none 0 0)) Gl rfl) ?_
 rintro _ w5 ⟨b5,rfl,am,F,G5⟩
 have ay:=G5.size
 have an:=F.lt
 have G:=(f.gr G5)
 have H:=(h.gr G5)
 refine qe rfl (Qr Jw rfl rfl (Qq.cs_ones _ _ _ (Qe.oneB G) (Qe.oneB H)) F rfl rfl) ?_
 rintro _ w6 ⟨U,M6⟩
 have az:=M6.size
 refine qm rfl<|Qa<|Qj<|qs 2 rfl<|qm rfl<|qv rfl (Zp (a:=x1.2) (b:=0) rfl rfl) ?_
 refine Qa<|Zv hm rfl (fun c1 hm=>?_) (fun c1 hm=>?_)
 · refine qs 4 rfl<|qv rfl (Zk (cs:=Qo.cs (Qo.mk 0#8 0 (Qq.mk [] 0#64 [] k0 k0) 0#8 0#64 [] k0) (.slice none 0 0) (.slice none 0 0) (.slice none 0 0)) Nr rfl (by kernel_rfl))<|qm rfl ?_
   have Y2:=Gr.trans G4 G5
   have V:=((y.gr Y2).md M6)
   refine qe rfl (Qr Zl rfl rfl (Qo.cs_ones _ _ _ _ rfl rfl rfl) V rfl rfl) ?_
   rintro _ w7 ⟨W,M7⟩
   have aA:=M7.size
   refine qm rfl<|qb ?_
   have X:=((((((Gr.refl w).trans G1).trans Y1).trans Y2).md M6).md M7)
   cases hm
   exact⟨_,_,rfl,Xy rfl (Zf Zl rfl W rfl) (Qn rfl),(.slice none 0 0),0,0,(.slice none 0 0),0,0,(.slice none 0 0),0,0,rfl,(Za _ 0 195 18),⟨.inl rfl⟩,(Za _ 0 65 2),⟨.inl rfl⟩,(Za _ 0 5 1),⟨.inl rfl⟩,⟨(.inl rfl)⟩,⟨(.inl rfl)⟩,⟨(.inl rfl)⟩,X⟩
 refine qu<|qs 5 rfl<|qm rfl<|qv rfl (Qu Jw rfl U rfl)<|qv rfl (Zk (cs:=Qo.cs (Qo.mk 1#8 p2 x1.1 0#8 0#64 [] k0) c d (.slice none 0 0)) Nr rfl (Wa rfl rfl rfl (Wa rfl rfl rfl (Wa rfl rfl rfl (by kernel_rfl))))) ?_
 refine qe rfl (Qz (cs:=Qo.cs (Qo.mk 0#8 0 (Qq.mk [] 0#64 [] k0 k0) 0#8 0#64 [] k0) (.slice none 0 0) (.slice none 0 0) (.slice none 0 0)) Km rfl) ?_
 rintro _ w8 ⟨b8,rfl,ao,I,G8⟩
 have aB:=G8.size
 have ap:=I.lt
 have J:=((G.md M6 (Qm q)).gr G8)
 have K:=((H.md M6 (Qm s)).gr G8)
 refine qe rfl (Qr Zl rfl rfl (Qo.cs_ones _ _ _ _ (Qe.oneB J) (Qe.oneB K) rfl) I rfl rfl) ?_
 rintro _ w9 ⟨Y,M9⟩
 have aC:=M9.size
 refine Qa<|Qj<|dw [([b8]),([])] [(6,[1])] (.leaf [(0,10),(1,10),(3,11),(2,0),(4,0),(5,10),(6,0)]) ?_
 intro Z z aq
 refine Xo ?_
 have Y3:=Gr.trans G4 G5
 have aa:=(((((B8.gr Y3).md M6).gr G8).md M9).gr z)
 refine dh 0 rfl rfl (fun w hS=>Qu Qy rfl (Bx.kp aa hS) rfl)<|dm 0 rfl rfl ?_
 have L:=(Y.gr z)
 refine dh 1 rfl rfl (fun w hS=>Qu Zl rfl (Bx.kp L hS) rfl) ?_
 obtain⟨x2,ab,hm⟩:=Qd hm
 refine qz [] rfl (eC Af rfl (Ar ab)) ⟨fun _=>Qb,fun _=>Qb,trivial⟩ ?_
 rintro _ aD ⟨rfl,t⟩
 have aE:=t.size
 refine kG t ?_
 have Y4:=Gr.trans z t
 have M:=((J.md M9 (Qm q)).gr Y4)
 have N:=((K.md M9 (Qm s)).gr Y4)
 obtain⟨x3,ac,hm⟩:=Qd hm
 refine qz [] rfl (eC Qkr rfl (Ql6 ac (Qe.rd M) (Qe.rd N) (Qe.rd (Za _ 0 5 1)))) ⟨fun _=>Qb,fun _=>Qb,trivial⟩ ?_
 rintro _ aF ⟨rfl,j⟩
 have aG:=j.size
 refine kG j ?_
 have Y5:=Gr.trans t j
 have ad:=((Kp.refl ([b8]) Z).gr Y5)
 refine qh 0 rfl rfl ad (fun w hS=>Qg Na rfl) ?_
 have ae:=(L.gr Y5)
 refine qz [(1,b8)] rfl (Hv (cs':=Qo.cs (Qo.mk 1#8 p2 x1.1 0#8 0#64 [] x3) c d (.slice none 0 0)) (vs:=kb x3) (Qy).siz rfl rfl rfl rfl rfl ae rfl rfl) ⟨fun _=>Qb,nofun,trivial⟩ ?_
 rintro _ aH ⟨O,k⟩
 have aI:=k.size
 refine kM k<|qd 3 rfl<|qv rfl (Qu Zl rfl O rfl) ?_
 have af:=(((((((y.gr Y3).md M6).gr G8).md M9).gr Y4).gr j).md k)
 have P:=((M.gr j).md k (Qm q))
 have Q:=((N.gr j).md k (Qm s))
 refine qe rfl (Qr Zl rfl rfl (Qo.cs_ones _ _ _ _ (Qe.oneB P) (Qe.oneB Q) rfl) af rfl rfl) ?_
 rintro _ aJ ⟨R,u⟩
 have aK:=u.size
 refine qm rfl<|Qa<|Qs ?_
 have ag:=(P.md u (Qt g))
 have ah:=(Q.md u (Qt i))
 have ai:=(((((((((((Gr.refl w).trans G1).trans Y1).trans Y3).md M6).trans G8).md M9).trans Y4).trans j).md k).md u)
 cases hm
 exact⟨_,_,rfl,Xy rfl (Zf Zl rfl R rfl) (Qn rfl),c,l,m,d,n,p,(.slice none 0 0),0,0,rfl,ag,⟨(Qk (A:=(fun x=>w.heap.size≤x)) g)⟩,ah,⟨(Qk (A:=(fun x=>w.heap.size≤x)) i)⟩,(Za _ 0 5 1),⟨.inl rfl⟩,⟨(Qc E.o)⟩,⟨(.inl rfl)⟩,⟨(.inl rfl)⟩,ai⟩
theorem Qbx {p0 p1 r}(hm:Qbw p0 p1=some r){w:World}:
 Calls Tryz.prog 65 [kv p0,.int .i64 p1].toArray w fun e w'=>∃ v,e=.returned v∧(v=kv r∧Gr w w'):=by
 unfold Qbw at hm
 refine Xu 9 Tryz.func65 rfl rfl rfl<|qs 2 rfl<|qe rfl (Xp (cs:=kb p0) rfl rfl) ?_
 rintro _ w1 ⟨b1,rfl,d,a,G1⟩
 have z1:=G1.size
 have g:=a.lt
 refine qe rfl (Qz (cs:=kb k0) Jq rfl) ?_
 rintro _ w2 ⟨b2,rfl,f,b,G2⟩
 have z3:=G2.size
 have h:=b.lt
 refine qd 5 rfl ?_
 have B5:=(a.gr G2)
 refine qv rfl (Qu Qy rfl B5 rfl)<|qm rfl<|qv rfl (Yr Yw rfl)<|qe rfl (eC Wn rfl (Wm p0 (Xr 51#8) (Wf _) (Wc _) (wd p1) _)) ?_
 rintro _ w3 ⟨rfl,G3⟩
 have z6:=G3.size
 have B7:=(b.gr G3)
 refine qe rfl (Qr Qy rfl rfl rfl B7 rfl rfl) ?_
 rintro _ w4 ⟨c,M4⟩
 have z8:=M4.size
 refine Qa<|Qs ?_
 have X9:=(((((Gr.refl w).trans G1).trans G2).trans G3).md M4)
 cases hm
 exact⟨_,_,rfl,Xj rfl (Zf Qy rfl c rfl),rfl,X9⟩
theorem Qp1 {p0 r}(hm:Qen p0=some r){w:World}:
 Calls Tryz.prog 229 [.agg (Va.cs p0).toArray].toArray w fun e w'=>∃ v,e=.returned v∧(v=kv r∧Gr w w'):=by
 unfold Qen at hm
 refine Xu 29 Tryz.func229 rfl rfl rfl<|qs 2 rfl<|qe rfl (Xp (cs:=Va.cs p0) rfl rfl) ?_
 rintro _ w1 ⟨b1,rfl,F,h,G1⟩
 have z1:=G1.size
 have J:=h.lt
 refine qe rfl (Qz (cs:=kb k0) Jq rfl) ?_
 rintro _ w2 ⟨b2,rfl,G,j,G2⟩
 have z3:=G2.size
 have K:=j.lt
 refine qd 1 rfl<|qe rfl (Qz (cs:=kb k0) Jq rfl) ?_
 rintro _ w3 ⟨b3,rfl,H,l,G3⟩
 have z5:=G3.size
 have L:=l.lt
 refine Qa<|Qj<|qs 1 rfl<|qm rfl<|Qa<|Xz ?_
 have X7:=((((Gr.refl w).trans G1).trans G2).trans G3)
 refine Kb (α:=Nat × Int × W2) (rg 4 24) (fun⟨n1,a3,a4⟩=>[(5,.int .i64 a3)]) (fun⟨n1,a3,a4⟩ wr=>(Xq (Qa9 p0) n1 (a3,a4)=some r)∧Bx wr b3 36 (kb a4)∧Kz [(1,b3)] w3 wr) (fun⟨n1,a3,a4⟩=>n1) ⟨Ze,0,k0⟩ ?_ ?_ ?_
 · exact Qh
 · exact⟨hm,l,Kz.refl _ _⟩
 clear hm;rintro⟨n1,a3,a4⟩ w4 ⟨hm,d,K4⟩
 have z8:=K4.size
 have M:=d.lt
 have hb:=Kd hm;clear hm;obtain⟨n1,rfl,hm⟩:=hb
 generalize f:Xq (Qa9 p0) n1=I at hm
 unfold Qa9 at hm
 try dsimp only at hm
 refine qs 1 rfl<|qv rfl (Jb (a:=a3) (b:=8) rfl rfl)<|Qa<|Qj<|Kg hm rfl (fun c1 hm=>?_) (fun c1 hm=>?_)
 · refine Jl<|Zd<|Zd<|Jk<|Zg<|qs 2 rfl ?_
   refine qv rfl (Qu Qy rfl d rfl) ?_
   have o:=((j.gr G3).kz K4)
   refine qe rfl (Qr Qy rfl rfl rfl o rfl rfl) ?_
   rintro _ w8 ⟨s,M8⟩
   have N:=M8.size
   refine Qa<|Qs ?_
   have t:=((X7.kz K4).md M8)
   cases hm
   exact⟨_,_,rfl,Xj rfl (Zf Qy rfl s rfl),rfl,t⟩
 refine qu<|Qj<|Xz<|qs 2 rfl<|qm rfl ?_
 refine qm rfl<|Qa<|dw [([b3])] [] (.leaf [(0,10),(1,10),(2,10),(3,10),(4,10),(5,10),(6,10),(7,10),(8,10),(9,10),(10,10),(11,10),(12,10),(13,10),(14,10),(15,10),(16,10),(17,10),(18,0),(19,10),(20,0)]) ?_
 intro w5 G5 O
 refine Xo<|dm 0 rfl rfl<|dm 0 rfl rfl<|dh 0 rfl rfl (fun w hS=>Zy (k:=.i64) (a:=8) (b:=a3) rfl rfl)<|dh 0 rfl rfl (fun w hS=>Qg Gy rfl) ?_
 have m:=((((h.gr G2).gr G3).kz K4).gr G5)
 refine dh 0 rfl rfl (fun w hS=>Ql (v:=wv p0.x) Zh rfl (Bx.kp m hS) rfl)<|dm 0 rfl rfl<|dh 0 rfl rfl (fun w hS=>Wj (k:=.i64) (a:=8) (b:=a3) rfl rfl)<|dh 0 rfl rfl (fun w hS=>Ys (k:=.i64) (a:=56) (b:=Qp (8*a3)) rfl rfl) ?_
 obtain⟨nn5,hnn5,hm⟩:=Qd hm
 refine dh 0 rfl rfl (fun w hS=>Om (c:=p0.x) (b:=(Qp (56-(Qp (8*a3))))) rfl rfl hnn5)<|dh 0 rfl rfl (fun w hS=>Qio Pn rfl)<|dh 0 rfl rfl (fun w hS=>Qg Ty rfl)<|dh 0 rfl rfl (fun w hS=>Ql (v:=wv p0.y) Zh rfl (Bx.kp m hS) rfl)<|dm 0 rfl rfl<|dh 0 rfl rfl (fun w hS=>Wj (k:=.i64) (a:=8) (b:=a3) rfl rfl)<|dh 0 rfl rfl (fun w hS=>Ys (k:=.i64) (a:=56) (b:=Qp (8*a3)) rfl rfl) ?_
 obtain⟨nn6,hnn6,hm⟩:=Qd hm
 refine dh 0 rfl rfl (fun w hS=>Om (c:=p0.y) (b:=(Qp (56-(Qp (8*a3))))) rfl rfl hnn6)<|dh 0 rfl rfl (fun w hS=>Qio Pn rfl) ?_
 obtain⟨y7,u,hm⟩:=Qd hm
 refine dh 0 rfl rfl (fun w hS=>Te (i:=a3) (p:=a4) Tryz.underlying36 (Zj).siz rfl rfl u) ?_
 have z:=(d.gr G5)
 obtain⟨x8,A,hm⟩:=Qd hm
 refine qz [(1,b3)] rfl (Ia (off:=0) (p:=a4) (q:=x8) (i:=a3) (cs':=kb x8) (Zj).siz rfl rfl z rfl A rfl rfl rfl) ⟨fun _=>Qb,trivial⟩ ?_
 rintro _ w6 ⟨B,M6⟩
 have P:=M6.size
 refine kM M6 ?_
 obtain⟨y9,C,hm⟩:=Qd hm
 have D:=((Kp.refl ([b3]) w5).md M6)
 refine qh 0 rfl rfl D (fun w hS=>Te (i:=Qp (8+a3)) (p:=x8) Tryz.underlying36 (Zj).siz rfl rfl C) ?_
 obtain⟨g,n,hm⟩:=Qd hm
 refine qz [(1,b3)] rfl (Ia (off:=0) (p:=x8) (q:=g) (i:=Qp (8+a3)) (cs':=kb g) (Zj).siz rfl rfl B rfl n rfl rfl rfl) ⟨fun _=>Qb,trivial⟩ ?_
 rintro _ w7 ⟨E,M7⟩
 have Q:=M7.size
 refine kM M7<|Qi<|Zo<|Zg<|qg 2 rfl<|qv rfl (Zy (k:=.i64) (a:=a3) (b:=1) rfl rfl)<|qm rfl ?_
 refine Qi ?_
 have K_15:Kz [(1,b3)] w3 w7:=(((K4.gr G5).md M6).md M7)
 subst f
 exact⟨rfl,⟨n1,Qp (a3+1),g⟩,Qh,⟨hm,E,K_15⟩,Nat.lt_succ_self _⟩
theorem Qoz {p0 p1 p2 r}(hm:Qel p0 p1 p2=some r){w:World}:
 Calls Tryz.prog 124 [bv p0,wv p1,wv p2].toArray w fun e w'=>∃ v,e=.returned v∧(v=kv r∧Gr w w'):=by
 unfold Qel at hm
 refine Xu 15 Tryz.func124 rfl rfl rfl<|qs 1 rfl<|qe rfl (Qz (cs:=kb k0) Jq rfl) ?_
 rintro _ w1 ⟨b1,rfl,h,d,G1⟩
 have z1:=G1.size
 have i:=d.lt
 refine qd 9 rfl<|qm rfl<|qv rfl (Eb Gs rfl) ?_
 obtain⟨nn1,hnn1,hm⟩:=Qd hm
 refine qv rfl (Qe3 (c:=p0.setWidth 64) (b:=(un 56#64)) rfl rfl hnn1)<|qm rfl<|qv rfl (Fs (a:=(p0.setWidth 64) <<< nn1) (b:=p1) rfl rfl)<|qm rfl<|qv rfl (Zk (cs:=Va.cs (Va.mk (((p0.setWidth 64) <<< nn1) ||| p1) p2)) El rfl rfl) ?_
 obtain⟨x2,f,hm⟩:=Qd hm
 refine qe rfl (eC Aj rfl (Qp1 f)) ?_
 rintro _ w2 ⟨rfl,G2⟩
 have z3:=G2.size
 have B4:=(d.gr G2)
 refine qe rfl (Qr Qy rfl rfl rfl B4 rfl rfl) ?_
 rintro _ w3 ⟨g,M3⟩
 have z5:=M3.size
 refine Qa<|Qs ?_
 have X6:=((((Gr.refl w).trans G1).trans G2).md M3)
 cases hm
 exact⟨_,_,rfl,Xj rfl (Zf Qy rfl g rfl),rfl,X6⟩
theorem Qjk {p0 p1 p2 vp2 zp2 gp2 op2 r}(hm:Qa5 p0 p1 p2=some r){w:World}(E:Rd w zp2 gp2 op2 1 vp2 (p2.map Xx)):
 Calls Tryz.prog 66 [kv p0,wv p1,vp2].toArray w fun e w'=>∃ v,e=.returned v∧(∃ ur0_s zr0_s gr0_s,v=.tuple [ur0_s,.int .i64 r.2].toArray∧Qe w' zr0_s gr0_s 5 1 ur0_s (r.1.map Xx)∧Xk (zr0_s=0∨w.heap.size≤gr0_s)∧Gr w w'):=by
 have F:=E.lth
 unfold Qa5 at hm
 refine Xu 46 Tryz.func66 rfl rfl rfl<|qs 3 rfl<|qe rfl (Xp (cs:=kb p0) rfl rfl) ?_
 rintro _ w1 ⟨b1,rfl,ae,G,G1⟩
 have z2:=G1.size
 have al:=G.lt
 refine qn 2 rfl<|Qa<|Qj<|qs 3 rfl<|qm rfl ?_
 have B4:=(E.gr G1)
 refine qv rfl (Zx (l:=p2) (c:=Xx) Tryz.underlying54 rfl B4)<|qv rfl (Ve (a:=(p2.length:Int)) (b:=16384) rfl rfl)<|Qa<|Zv hm rfl (fun c1 hm=>?_) (fun c1 hm=>?_)
 · refine qs 2 rfl<|qn 2 rfl<|Qa<|Qs<|Zb ?_
   have X5:=((Gr.refl w).trans G1)
   cases hm
   exact⟨_,_,rfl,Xy rfl (Qn rfl) (Qn rfl),(.slice none 0 0),0,0,rfl,(Za _ 0 5 1),⟨.inl rfl⟩,X5⟩
 refine qu<|qs 4 rfl<|qm rfl<|qv rfl (Zx (l:=p2) (c:=Xx) Tryz.underlying54 rfl B4) ?_
 obtain⟨l1,V,hm⟩:=Qd hm
 refine qe rfl (Az (c:=Xx) (a:=0#8) Tj Ft rfl ⟨rfl,rfl⟩ rfl V (by decide)) ?_
 rintro W w2 ⟨f,af,H,G2⟩
 have z6:=G2.size
 have I:=H.lth
 refine qm rfl<|qd 1 rfl<|qe rfl (Qz (cs:=kb k0) Jq rfl) ?_
 rintro _ w3 ⟨b3,rfl,ag,J,G3⟩
 have z8:=G3.size
 have am:=J.lt
 refine Qa<|Qj<|qs 3 rfl<|qm rfl ?_
 have K:=((B4.gr G2).gr G3)
 refine qv rfl (Zx (l:=p2) (c:=Xx) Tryz.underlying54 rfl K)<|qm rfl<|Qa<|Xz ?_
 have L:=((((Gr.refl w).trans G1).trans G2).trans G3)
 have X:=(H.gr G3)
 refine Kb (α:=Nat × List (BitVec 8) × Int × W2 × Value × Nat × Nat) ([8,10,11]++rg 20 25) (fun⟨n1,a6,a8,a9,vy7,zy7,gy7⟩=>[(8,vy7),(20,.int .i64 a8)]) (fun⟨n1,a6,a8,a9,vy7,zy7,gy7⟩ wr=>(Xq (Qa7 p0 p1 p2) n1 (a6,a8,a9)=some r)∧Qe wr zy7 gy7 5 1 vy7 (a6.map Xx)∧Xk (zy7=0∨(gy7=f∧1≠0)∨w3.heap.size≤gy7)∧Bx wr b3 36 (kb a9)∧Kz [(1,b3),(1,f)] w3 wr) (fun⟨n1,a6,a8,a9,vy7,zy7,gy7⟩=>n1) ⟨Ze,l1,0,k0,W,1,f⟩ ?_ ?_ ?_
 · exact Qh
 · exact⟨hm,X,⟨Qb⟩,J,Kz.refl _ _⟩
 clear hm;rintro⟨n1,a6,a8,a9,vy7,zy7,gy7⟩ w4 ⟨hm,g,d,h,K4⟩
 have an:=K4.size
 have ah:=g.lth
 have ai:=h.lt
 have hb:=Kd hm;clear hm;obtain⟨n1,rfl,hm⟩:=hb
 generalize B:Xq (Qa7 p0 p1 p2) n1=M at hm
 unfold Qa7 at hm
 try dsimp only at hm
 refine qs 1 rfl<|qv rfl (Jb (a:=a8) (b:=(p2.length:Int)) rfl rfl)<|Qa<|Qj<|Kg hm rfl (fun c2 hm=>?_) (fun c2 hm=>?_)
 · refine Jl<|Zd<|Zd<|Jk<|Zg<|qs 3 rfl ?_
   refine qn 3 rfl<|Qa<|Qs ?_
   have Y:=(L.kz K4 (Qc ((.inr Qb):1=0∨w.heap.size≤f)))
   cases hm
   exact⟨_,_,rfl,Xy rfl (Qn rfl) (Qn rfl),vy7,zy7,gy7,rfl,g,⟨(Qv (A:=(fun x=>w.heap.size≤x)) d (.inr Qb))⟩,Y⟩
 refine qu<|Qj<|Xz<|qs 5 rfl<|qm rfl ?_
 obtain⟨n,y,hm⟩:=Qd hm
 have N:=(K.kz K4 (Jt ((Kh (.inr (Qc F.o))):zp2=0∨1=0∨gp2≠f) (Qm (b:=b3) F)))
 refine qv rfl (Vm (i:=a8) Tryz.underlying54 (Zj).siz rfl N rfl y)<|qv rfl (Pz (q:=0) (u:=bv n) Zj rfl N y (by first|rfl|omega) rfl)<|qn 2 rfl<|Qa ?_
 have ao:=(L.kz K4 (Qc ((.inr Qb):1=0∨w.heap.size≤f)))
 refine qj (β:=W2) (rg 25 10) (fun j=>[]) (fun j wr=>(Qa6 a6 a8 M n j=some r)∧Bx wr b3 36 (kb j)∧Kz [(1,b3)] w4 wr) ?_ ?_
 · refine qs 3 rfl<|qm rfl ?_
   obtain⟨Z,O,hm⟩:=Qd hm
   refine qv rfl (Db (a:=a8) (b:=16) rfl rfl O)<|qv rfl (Kw (a:=Z) (b:=0) rfl rfl)<|Qa<|Kg hm rfl (fun c3 hm=>?_) (fun c3 hm=>?_)
   · refine Vl ?_
     exact⟨rfl,a9,Qh,hm,h,(Kz.refl _ _)⟩
   refine dw [([b3])] [] (.leaf [(0,10),(1,10),(2,10),(3,10),(4,10),(5,0),(6,0),(7,0)]) ?_
   intro w7 G7 ap
   refine Xo ?_
   have aa:=((((G.gr G2).gr G3).kz K4 (Qc ((.inr Qb):1=0∨f≠b1))).gr G7)
   refine dh 0 rfl rfl (fun w hS=>Qu Qy rfl (Bx.kp aa hS) rfl)<|dm 0 rfl rfl ?_
   obtain⟨aq,P,hm⟩:=Qd hm
   refine dh 0 rfl rfl (fun w hS=>Nj (a:=a8) (b:=16) rfl rfl P)<|dh 0 rfl rfl (fun w hS=>Yr Yw rfl)<|dm 0 rfl rfl ?_
   obtain⟨Q,R,hm⟩:=Qd hm
   refine qz [] rfl (eC Qfg rfl (Qoz R)) ⟨fun _=>Qb,trivial⟩ ?_
   rintro _ w8 ⟨rfl,G8⟩
   have ar:=G8.size
   refine kG G8<|qz [] rfl (eC Mm rfl (Al p0 Q _)) ⟨fun _=>Qb,trivial⟩ ?_
   rintro _ w9 ⟨rfl,G9⟩
   have au:=G9.size
   refine kG G9 ?_
   have ab:=(((h.gr G7).gr G8).gr G9)
   refine qz [(1,b3)] rfl (Qr Qy rfl rfl rfl ab rfl rfl) ⟨fun _=>Qb,trivial⟩ ?_
   rintro _ av ⟨S,C⟩
   have aw:=C.size
   refine kM C<|Qi ?_
   exact⟨rfl,(Pp p0 Q),Qh,hm,S,((((Kz.gr (Kz.refl _ _) G7).gr G8).gr G9).md C)⟩
 clear hm;rintro j w5 ⟨hm,m,K5⟩
 have ax:=K5.size
 have aj:=m.lt
 unfold Qa6 at hm
 refine qg 10 rfl<|qn 4 rfl ?_
 obtain⟨T,U,hm⟩:=Qd hm
 refine qv rfl (Db (a:=a8) (b:=16) rfl rfl U) ?_
 obtain⟨t,z,hm⟩:=Qd hm
 refine qv rfl (Te (i:=T) (p:=j) Tryz.underlying36 (Zj).siz rfl rfl z)<|qv rfl (Ci (off:=0) (p:=j) (i:=T) Zj rfl m rfl z (by omega))<|qv rfl (Qo3 (a:=n) (b:=t) rfl rfl) ?_
 obtain⟨ay,s,hm⟩:=Qd hm
 have D:=(g.kz K5 (Qc (Qf (b:=b3) d (Qm I))))
 refine qv rfl (Vm (i:=a8) Tryz.underlying54 (Zj).siz rfl (Qe.rd D) rfl s) ?_
 have ak:=Qe.z1 D s
 refine qe rfl (Qlg (i:=a8) (q:=0) (a':=n ^^^ t) (vs:=[bv (n ^^^ t)]) (c:=Xx) (Zj).siz rfl rfl rfl rfl rfl D s (by first|rfl|omega) rfl rfl ⟨rfl,rfl⟩) ?_
 rintro _ w6 ⟨ac,M6⟩
 have az:=M6.size
 refine Qi<|Zo<|Zg<|qg 2 rfl<|qv rfl (Zy (k:=.i64) (a:=a8) (b:=1) rfl rfl)<|qm rfl<|Qi ?_
 have K_23:Kz [(1,b3),(1,f)] w3 w6:=((K4.kz K5).md M6 (Qc (Qv (A:=(fun x=>(x=f∧1≠0)∨w3.heap.size≤x)) d Qb)))
 have ad:=(m.md M6 (Qc (Qf (b:=b3) d (Qm I))))
 subst B
 exact⟨rfl,⟨n1,a6.set a8.toNat (n ^^^ t),Qp (a8+1),j,vy7,zy7,gy7⟩,Qh,⟨hm,ac,⟨(Qv (A:=(fun x=>(x=f∧1≠0)∨w3.heap.size≤x)) d Qb)⟩,ad,K_23⟩,Nat.lt_succ_self _⟩
theorem Vh {p0 p1 p2 p3 p4 vp4 zp4 gp4 op4 r}(hm:An p0 p1 p2 p3 p4=some r){w:World}(T:Rd w zp4 gp4 op4 1 vp4 (p4.map Xx)):
 Calls Tryz.prog 24 [kv p0,.agg (Zi.cs p1).toArray,.int .i64 p2,wv p3,vp4].toArray w fun e w'=>∃ v,e=.returned v∧(∃ ur0_2 zr0_2 gr0_2 ur0_4 zr0_4 gr0_4 ur0_39 zr0_39 gr0_39,v=.tuple [.agg (Qo.cs r.1 ur0_2 ur0_4 ur0_39).toArray,.int .i64 r.2].toArray∧Qe w' zr0_2 gr0_2 195 18 ur0_2 (r.1.Head.Items.map Zc.cs)∧Xk (zr0_2=0∨w.heap.size≤gr0_2)∧Qe w' zr0_4 gr0_4 65 2 ur0_4 (r.1.Head.Points.map Qx.cs)∧Xk (zr0_4=0∨w.heap.size≤gr0_4)∧Qe w' zr0_39 gr0_39 5 1 ur0_39 (r.1.Data.map Xx)∧Xk (zr0_39=0∨w.heap.size≤gr0_39)∧Xk (zr0_4=0∨zr0_2=0∨gr0_4≠gr0_2)∧Xk (zr0_39=0∨zr0_2=0∨gr0_39≠gr0_2)∧Xk (zr0_39=0∨zr0_4=0∨gr0_39≠gr0_4)∧Gr w w'):=by
 have au:=T.lth
 unfold An at hm
 refine Xu 65 Tryz.func24 rfl rfl rfl<|qs 4 rfl<|qe rfl (Xp (cs:=kb p0) rfl rfl) ?_
 rintro _ w1 ⟨b1,rfl,a6,U,G1⟩
 have z2:=G1.size
 have bj:=U.lt
 refine qe rfl (Xp (cs:=Zi.cs p1) rfl rfl) ?_
 rintro _ w2 ⟨b2,rfl,a7,V,G2⟩
 have z4:=G2.size
 have bk:=V.lt
 refine qe rfl (Qz (cs:=Qo.cs (Qo.mk 0#8 0 (Qq.mk [] 0#64 [] k0 k0) 0#8 0#64 [] k0) (.slice none 0 0) (.slice none 0 0) (.slice none 0 0)) Km rfl) ?_
 rintro _ w3 ⟨b3,rfl,a8,o,G3⟩
 have z6:=G3.size
 have bl:=o.lt
 refine qm rfl<|qd 8 rfl ?_
 have B8:=(V.gr G3)
 refine qv rfl (Qu Ya rfl B8 rfl)<|qm rfl ?_
 obtain⟨x1,av,hm⟩:=Qd hm
 refine qe rfl (eC Qks rfl (Ql4 av)) ?_
 rintro _ w4 ⟨rfl,G4⟩
 have z9:=G4.size
 refine qn 5 rfl<|Qa<|Qj ?_
 refine qs 2 rfl<|qm rfl<|qv rfl (Zp (a:=x1.2) (b:=0) rfl rfl)<|Qa<|Zv hm rfl (fun c1 hm=>?_) (fun c1 hm=>?_)
 · refine qs 4 rfl<|qv rfl (Zk (cs:=Qo.cs (Qo.mk 0#8 0 (Qq.mk [] 0#64 [] k0 k0) 0#8 0#64 [] k0) (.slice none 0 0) (.slice none 0 0) (.slice none 0 0)) Nr rfl (by kernel_rfl))<|qm rfl ?_
   have aw:=(o.gr G4)
   refine qe rfl (Qr Zl rfl rfl (Qo.cs_ones _ _ _ _ rfl rfl rfl) aw rfl rfl) ?_
   rintro _ w5 ⟨ax,M5⟩
   have bm:=M5.size
   refine qm rfl<|qb ?_
   have Y1:=Gr.trans (Gr.trans (Gr.trans G1 G2) G3) G4
   have ay:=(((Gr.refl w).trans Y1).md M5)
   cases hm
   exact⟨_,_,rfl,Xy rfl (Zf Zl rfl ax rfl) (Qn rfl),(.slice none 0 0),0,0,(.slice none 0 0),0,0,(.slice none 0 0),0,0,rfl,(Za _ 0 195 18),⟨.inl rfl⟩,(Za _ 0 65 2),⟨.inl rfl⟩,(Za _ 0 5 1),⟨.inl rfl⟩,⟨(.inl rfl)⟩,⟨(.inl rfl)⟩,⟨(.inl rfl)⟩,ay⟩
 refine qu<|Qj<|qs 3 rfl<|qm rfl ?_
 have Y2:=Gr.trans (Gr.trans (Gr.trans G1 G2) G3) G4
 have W:=(T.gr Y2)
 refine qv rfl (Zx (l:=p4) (c:=Xx) Tryz.underlying54 rfl W)<|qv rfl (Ve (a:=(p4.length:Int)) (b:=256) rfl rfl)<|Qa<|Zv hm rfl (fun c2 hm=>?_) (fun c2 hm=>?_)
 · refine qs 3 rfl<|qv rfl (Zk (cs:=Qo.cs (Qo.mk 0#8 0 (Qq.mk [] 0#64 [] k0 k0) 0#8 0#64 [] k0) (.slice none 0 0) (.slice none 0 0) (.slice none 0 0)) Nr rfl (by kernel_rfl)) ?_
   have az:=(o.gr G4)
   refine qe rfl (Qr Zl rfl rfl (Qo.cs_ones _ _ _ _ rfl rfl rfl) az rfl rfl) ?_
   rintro _ w6 ⟨aA,M6⟩
   have bn:=M6.size
   refine qm rfl<|qb ?_
   have aB:=(((Gr.refl w).trans Y2).md M6)
   cases hm
   exact⟨_,_,rfl,Xy rfl (Zf Zl rfl aA rfl) (Qn rfl),(.slice none 0 0),0,0,(.slice none 0 0),0,0,(.slice none 0 0),0,0,rfl,(Za _ 0 195 18),⟨.inl rfl⟩,(Za _ 0 65 2),⟨.inl rfl⟩,(Za _ 0 5 1),⟨.inl rfl⟩,⟨(.inl rfl)⟩,⟨(.inl rfl)⟩,⟨(.inl rfl)⟩,aB⟩
 refine qu ?_
 have X:=((Gr.refl w).trans Y2)
 refine qj (β:=W2 × Nat) ([14]++rg 30 8) (fun⟨a3,bq2⟩=>[(14,.pointer (some ⟨bq2,0,none⟩))]) (fun⟨a3,bq2⟩ wr=>(Qfx p3 p4 x1 a3=some r)∧Bx wr bq2 36 (kb a3)∧w4.heap.size≤bq2∧Kz [] w4 wr) ?_ ?_
 · refine dw [([])] [] (.fork [(0,10),(1,10),(2,10),(3,10),(4,10),(6,10)] (.fork [(5,0)] (.leaf [(7,0),(8,0),(9,0)]) (.leaf [(8,0),(7,0),(9,0)])) (.leaf [(8,0),(5,0),(7,0),(9,0)])) ?_
   intro bo p a9
   refine Zt ?_
   have aC:=((((U.gr G2).gr G3).gr G4).gr p)
   refine dh 0 rfl rfl (fun w hS=>Qu Qy rfl (Bx.kp aC hS) rfl)<|dm 0 rfl rfl<|dh 0 rfl rfl (fun w hS=>Qg Pd rfl) ?_
   have aD:=((B8.gr G4).gr p)
   refine dh 0 rfl rfl (fun w hS=>Ql (v:=.int .i64 p1.Epoch) Xm rfl (Bx.kp aD hS) rfl) ?_
   obtain⟨x8,aE,hm⟩:=Qd hm
   refine dh 0 rfl rfl (fun w hS=>Nj (a:=p2) (b:=p1.Epoch) rfl rfl aE)<|dm 0 rfl rfl<|Zs ?_ ?_
   · refine Zt ?_
     obtain⟨x9,aF,hm⟩:=Qd hm
     refine qz [] rfl (eC Af rfl (Ar aF)) ⟨fun _=>Qb,trivial⟩ ?_
     rintro _ bp ⟨rfl,u⟩
     have bq:=u.size
     refine kG u<|Zs ?_ ?_
     · refine Xo ?_
       obtain⟨aG,Y,hm⟩:=Qd hm
       refine qz [] rfl (eC Qbb rfl (Qbx Y)) ⟨fun _=>Qb,trivial⟩ ?_
       rintro _ br ⟨rfl,F⟩
       have bs:=F.size
       refine kG F<|qz [] rfl (Qz (cs:=kb k0) Jq rfl) ⟨fun _=>Qb,trivial⟩ ?_
       rintro _ bu ⟨Z,rfl,aH,C,G⟩
       have bw:=G.size
       have ba:=C.lt
       refine kG G<|qz [(1,Z)] rfl (Qr Qy rfl rfl rfl C rfl rfl) ⟨fun _=>Qb,trivial⟩ ?_
       rintro _ bx ⟨aa,H⟩
       have bz:=H.size
       refine kM H<|Qi ?_
       exact⟨rfl,⟨aG,Z⟩,Qh,hm,aa,(by omega),(((((Xi.gr p).gr u).gr F).gr G).md H)⟩
     refine Xo<|qz [] rfl (Qz (cs:=kb k0) Jq rfl) ⟨fun _=>Qb,trivial⟩ ?_
     rintro _ bA ⟨ab,rfl,aI,D,I⟩
     have bB:=I.size
     have bb:=D.lt
     refine kG I ?_
     obtain⟨aJ,ac,hm⟩:=Qd hm
     refine qz [] rfl (eC Qbb rfl (Qbx ac)) ⟨fun _=>Qb,trivial⟩ ?_
     rintro _ bC ⟨rfl,y⟩
     have bD:=y.size
     refine kG y ?_
     have aK:=(D.gr y)
     refine qz [(1,ab)] rfl (Qr Qy rfl rfl rfl aK rfl rfl) ⟨fun _=>Qb,trivial⟩ ?_
     rintro _ bE ⟨ad,J⟩
     have bF:=J.size
     refine kM J<|Qi ?_
     exact⟨rfl,⟨aJ,ab⟩,Qh,hm,ad,(by omega),(((((Xi.gr p).gr u).gr I).gr y).md J)⟩
   refine Xo<|qz [] rfl (Qz (cs:=kb k0) Jq rfl) ⟨fun _=>Qb,trivial⟩ ?_
   rintro _ bG ⟨ae,rfl,aL,E,K⟩
   have bH:=K.size
   have bc:=E.lt
   refine kG K ?_
   obtain⟨bI,af,hm⟩:=Qd hm
   refine qz [] rfl (eC Af rfl (Ar af)) ⟨fun _=>Qb,trivial⟩ ?_
   rintro _ bJ ⟨rfl,z⟩
   have bK:=z.size
   refine kG z ?_
   obtain⟨aM,ag,hm⟩:=Qd hm
   refine qz [] rfl (eC Qbb rfl (Qbx ag)) ⟨fun _=>Qb,trivial⟩ ?_
   rintro _ bL ⟨rfl,B⟩
   have bM:=B.size
   refine kG B ?_
   have aN:=((E.gr z).gr B)
   refine qz [(1,ae)] rfl (Qr Qy rfl rfl rfl aN rfl rfl) ⟨fun _=>Qb,trivial⟩ ?_
   rintro _ bN ⟨ah,L⟩
   have bO:=L.size
   refine kM L<|Qi ?_
   exact⟨rfl,⟨aM,ae⟩,Qh,hm,ah,(by omega),(((((Xi.gr p).gr K).gr z).gr B).md L)⟩
 clear hm;rintro⟨a3,bq2⟩ w7 ⟨hm,q,aO,K7⟩
 have bP:=K7.size
 have bd:=q.lt
 unfold Qfx at hm
 refine qs 7 rfl<|qm rfl ?_
 obtain⟨x4,aP,hm⟩:=Qd hm
 refine qv rfl (Db (a:=x1.1) (b:=4) rfl rfl aP)<|qv rfl (Qin Qfa rfl)<|qm rfl<|qv rfl (Zk (cs:=Qo.cs (Qo.mk 2#8 0 (Qq.mk [] 0#64 [] k0 k0) (Kl x4) p3 [] k0) (.slice none 0 0) (.slice none 0 0) (.slice none 0 0)) Nr rfl (by kernel_rfl))<|qe rfl (Qz (cs:=Qo.cs (Qo.mk 0#8 0 (Qq.mk [] 0#64 [] k0 k0) 0#8 0#64 [] k0) (.slice none 0 0) (.slice none 0 0) (.slice none 0 0)) Km rfl) ?_
 rintro _ w8 ⟨b8,rfl,be,ai,G8⟩
 have bQ:=G8.size
 have bf:=ai.lt
 refine qe rfl (Qr Zl rfl rfl (Qo.cs_ones _ _ _ _ rfl rfl rfl) ai rfl rfl) ?_
 rintro _ w9 ⟨aQ,M9⟩
 have bR:=M9.size
 refine Qa<|Qj<|qs 10 rfl ?_
 have aj:=((q.gr G8).md M9)
 refine qv rfl (Qu Qy rfl aj rfl)<|qn 2 rfl ?_
 have aR:=(((W.kz K7).gr G8).md M9 (Qm au))
 obtain⟨x5,aS,hm⟩:=Qd hm
 refine qe rfl (eC Qkt rfl (Qjk aS aR)) ?_
 rintro _ bS ⟨f,k,m,rfl,g,d,i⟩
 have bT:=i.size
 have bg:=g.lth
 refine qn 3 rfl<|qv rfl (Qg Sy rfl) ?_
 have aT:=(aQ.gr i)
 refine qe rfl (Js (cs':=Qo.cs (Qo.mk 2#8 0 (Qq.mk [] 0#64 [] k0 k0) (Kl x4) p3 x5.1 k0) (.slice none 0 0) (.slice none 0 0) f) (Yo).siz rfl rfl (Qe.oneB g) aT rfl rfl) ?_
 rintro _ bU ⟨ak,j⟩
 have bV:=j.size
 refine qm rfl<|qd 2 rfl<|qm rfl<|qv rfl (Zp (a:=x5.2) (b:=0) rfl rfl)<|Qa ?_
 refine Zv hm rfl (fun c3 hm=>?_) (fun c3 hm=>?_)
 · refine qs 4 rfl<|qv rfl (Zk (cs:=Qo.cs (Qo.mk 0#8 0 (Qq.mk [] 0#64 [] k0 k0) 0#8 0#64 [] k0) (.slice none 0 0) (.slice none 0 0) (.slice none 0 0)) Nr rfl (by kernel_rfl))<|qm rfl ?_
   have aU:=((((((o.gr G4).kz K7).gr G8).md M9).gr i).md j)
   refine qe rfl (Qr Zl rfl rfl (Qo.cs_ones _ _ _ _ rfl rfl rfl) aU rfl rfl) ?_
   rintro _ bW ⟨al,am⟩
   have bX:=am.size
   refine qm rfl<|qb ?_
   have aV:=((((((X.kz K7).trans G8).md M9).trans i).md j).md am)
   cases hm
   exact⟨_,_,rfl,Xy rfl (Zf Zl rfl al rfl) (Qn rfl),(.slice none 0 0),0,0,(.slice none 0 0),0,0,(.slice none 0 0),0,0,rfl,(Za _ 0 195 18),⟨.inl rfl⟩,(Za _ 0 65 2),⟨.inl rfl⟩,(Za _ 0 5 1),⟨.inl rfl⟩,⟨(.inl rfl)⟩,⟨(.inl rfl)⟩,⟨(.inl rfl)⟩,aV⟩
 refine qu<|Qj<|dw [([b8]),([])] [(8,[1])] (.leaf [(0,10),(1,11),(2,0),(3,0),(4,10),(5,10),(6,10),(7,10),(8,0),(9,10)]) ?_
 intro aW s bh
 refine Xo ?_
 have aX:=(((aj.gr i).md j).gr s)
 refine dh 0 rfl rfl (fun w hS=>Qu Qy rfl (Bx.kp aX hS) rfl) ?_
 have an:=(ak.gr s)
 refine dh 1 rfl rfl (fun w hS=>Qu Zl rfl (Bx.kp an hS) rfl) ?_
 have ao:=((g.md j (Qt d)).gr s)
 obtain⟨x6,aY,hm⟩:=Qd hm
 refine qz [] rfl (eC Rt rfl (Ba aY (Qe.rd (Za _ 0 195 18)) (Qe.rd (Za _ 0 65 2)) (Qe.rd ao))) ⟨fun _=>Qb,fun _=>Qb,trivial⟩ ?_
 rintro P bY ⟨_,Q,R,rfl,h,S,M⟩
 have bZ:=M.size
 have bi:=h.lth
 refine kG M ?_
 obtain⟨x7,aZ,hm⟩:=Qd hm
 refine qz [] rfl (eC Sl rfl (Sb aZ (Qe.rd h))) ⟨fun _=>Qb,fun _=>Qb,trivial⟩ ?_
 rintro _ b0 ⟨rfl,N⟩
 have b4:=N.size
 refine kG N ?_
 have Y3:=Gr.trans M N
 have t:=((Kp.refl ([b8]) aW).gr Y3)
 refine dn 0 rfl rfl t<|dn 0 rfl rfl t<|dn 0 rfl rfl t<|qh 0 rfl rfl t (fun w hS=>Qg Na rfl) ?_
 have a0:=(an.gr Y3)
 refine qz [(1,b8)] rfl (Hv (cs':=Qo.cs (Qo.mk 2#8 0 (Qq.mk [] 0#64 [] k0 k0) (Kl x4) p3 x5.1 x7.1) (.slice none 0 0) (.slice none 0 0) f) (vs:=kb x7.1) (Qy).siz rfl rfl rfl rfl rfl a0 rfl rfl) ⟨fun _=>Qb,nofun,trivial⟩ ?_
 rintro _ b5 ⟨ap,n⟩
 have b6:=n.size
 refine kM n ?_
 have a1:=(t.md n)
 refine dn 0 rfl rfl a1<|qd 4 rfl<|qv rfl (Qu Zl rfl ap rfl)<|qm rfl ?_
 have a2:=(((((((((o.gr G4).kz K7).gr G8).md M9).gr i).md j).gr s).gr Y3).md n)
 have aq:=((ao.gr Y3).md n (Qt d))
 refine qe rfl (Qr Zl rfl rfl (Qo.cs_ones _ _ _ _ rfl rfl (Qe.oneB aq)) a2 rfl rfl) ?_
 rintro _ b7 ⟨ar,O⟩
 have b9:=O.size
 refine qm rfl<|Qa<|Qs ?_
 have a4:=(aq.md O (Qt d))
 have a5:=(((((((((X.kz K7).trans G8).md M9).trans i).md j).trans s).trans Y3).md n).md O)
 cases hm
 exact⟨_,_,rfl,Xy rfl (Zf Zl rfl ar rfl) (Qn rfl),(.slice none 0 0),0,0,(.slice none 0 0),0,0,f,k,m,rfl,(Za _ 0 195 18),⟨.inl rfl⟩,(Za _ 0 65 2),⟨.inl rfl⟩,a4,⟨(Qk (A:=(fun x=>w.heap.size≤x)) d)⟩,⟨(.inl rfl)⟩,⟨(.inr (.inl rfl))⟩,⟨(.inr (.inl rfl))⟩,a5⟩
theorem Ql1 {p0 r}(hm:Qbd p0=some r){w:World}:
 Calls Tryz.prog 43 [.agg (Xn.cs p0).toArray].toArray w fun e w'=>∃ v,e=.returned v∧(v=.int .i64 r∧Gr w w'):=by
 unfold Qbd at hm
 refine Xu 11 Tryz.func43 rfl rfl rfl<|qs 2 rfl<|qe rfl (Xp (cs:=Xn.cs p0) rfl rfl) ?_
 rintro _ w1 ⟨b1,rfl,aq,D,G1⟩
 have z1:=G1.size
 have aI:=D.lt
 refine qm rfl<|qd 8 rfl<|qv rfl (Qu Jr rfl D rfl)<|Lr 33 Tryz.func51 rfl rfl rfl Qba rfl rfl rfl rfl rfl<|Qj ?_
 refine qg 3 rfl<|qe rfl (Xp (cs:=Xn.cs p0) rfl rfl) ?_
 rintro _ w2 ⟨b2,rfl,ar,z,G2⟩
 have z3:=G2.size
 have aJ:=z.lt
 refine qe rfl (Qz (cs:=[.nilFunc,.nilFunc,.nilFunc,.nilFunc]) Vt rfl) ?_
 rintro _ w3 ⟨b3,rfl,au,f,G3⟩
 have z5:=G3.size
 have aK:=f.lt
 refine qm rfl<|qd 3 rfl<|qv rfl (Zk (cs:=[.func (.func 116) #[] #[],.func (.func 117) #[] #[],.func (.func 118) #[] #[],.func (.func 119) #[] #[]]) Hr rfl rfl)<|qe rfl (Qz (cs:=[.nilFunc,.nilFunc,.nilFunc,.nilFunc]) Vt rfl) ?_
 rintro _ w4 ⟨b4,rfl,av,E,G4⟩
 have z7:=G4.size
 have aL:=E.lt
 refine qe rfl (Qr Zn rfl rfl rfl E rfl rfl) ?_
 rintro _ w5 ⟨A,M5⟩
 have z9:=M5.size
 refine qd 8 rfl<|qv rfl (Zk (cs:=[.nilFunc,.nilFunc,.nilFunc,.nilFunc]) Hr rfl rfl)<|qv rfl (Jm (vs:=[.func (.func 116) #[] #[],.func (.func 117) #[] #[],.func (.func 118) #[] #[],.func (.func 119) #[] #[]]) Zn rfl A rfl rfl)<|qv rfl (Jm (vs:=[.func (.func 116) #[] #[],.func (.func 117) #[] #[],.func (.func 118) #[] #[],.func (.func 119) #[] #[]]) Zn rfl A rfl rfl)<|qv rfl (Jm (vs:=[.func (.func 116) #[] #[],.func (.func 117) #[] #[],.func (.func 118) #[] #[],.func (.func 119) #[] #[]]) Zn rfl A rfl rfl) ?_
 refine qv rfl (Zk (cs:=[.func (.func 99) #[] #[],.func (.func 120) #[] #[],.func (.func 121) #[] #[],.func (.func 122) #[] #[]]) Hr rfl rfl)<|qv rfl (Ea (cs:=[.nilFunc,.nilFunc,.nilFunc,.nilFunc,.func (.func 116) #[] #[],.func (.func 117) #[] #[],.func (.func 118) #[] #[],.func (.func 119) #[] #[],.func (.func 116) #[] #[],.func (.func 117) #[] #[],.func (.func 118) #[] #[],.func (.func 119) #[] #[],.func (.func 116) #[] #[],.func (.func 117) #[] #[],.func (.func 118) #[] #[],.func (.func 119) #[] #[],.func (.func 99) #[] #[],.func (.func 120) #[] #[],.func (.func 121) #[] #[],.func (.func 122) #[] #[]]) Qa1 rfl rfl)<|qe rfl (Qz (cs:=[.nilFunc,.nilFunc,.nilFunc,.nilFunc,.nilFunc,.nilFunc,.nilFunc,.nilFunc,.nilFunc,.nilFunc,.nilFunc,.nilFunc,.nilFunc,.nilFunc,.nilFunc,.nilFunc,.nilFunc,.nilFunc,.nilFunc,.nilFunc]) Ov rfl) ?_
 rintro _ w6 ⟨b6,rfl,aw,F,G6⟩
 have aM:=G6.size
 have ax:=F.lt
 refine qe rfl (Qr Qa0 rfl rfl rfl F rfl rfl) ?_
 rintro _ w7 ⟨G,M7⟩
 have aN:=M7.size
 refine Qa<|Qj ?_
 have B:=((((((((Gr.refl w).trans G1).trans G2).trans G3).trans G4).md M5).trans G6).md M7)
 refine qj (β:=Bool) (rg 14 9) (fun a1=>[(22,.bool a1)]) (fun a1 wr=>(Qbe p0 a1=some r)∧Kz [] w7 wr) ?_ ?_
 · refine qg 9 rfl<|qv rfl (Qg Hj rfl) ?_
   have H:=(((((z.gr G3).gr G4).md M5).gr G6).md M7)
   refine qv rfl (Ql (v:=bv p0.Kind) Zj rfl H rfl)<|qv rfl (Ee (p:=p0.Kind) (q:=1#8) rfl rfl)<|Zm hm rfl (Qw rfl) (fun c4 hm=>?_) (fun c4 hm=>?_)
   · refine qn 5 rfl<|Qi ?_
     exact⟨rfl,true,Qh,hm,Xi⟩
   refine qv rfl (Qg Hj rfl)<|qv rfl (Ql (v:=bv p0.Kind) Zj rfl H rfl)<|qv rfl (Oj Po rfl)<|qv rfl (Vd (a:=Xr p0.Kind) (b:=5) rfl rfl)<|qm rfl<|Qi ?_
   exact⟨rfl,(decide ((5:Int)≤Xr p0.Kind)),Qh,hm,Xi⟩
 clear hm;rintro a1 w8 ⟨hm,K8⟩
 have aO:=K8.size
 unfold Qbe at hm
 refine Zw hm rfl (fun c1 hm=>?_) (fun c1 hm=>?_)
 · refine qs 3 rfl<|qv rfl (Zk (cs:=[.nilFunc,.nilFunc,.nilFunc,.nilFunc]) Hr rfl rfl) ?_
   have U:=(((((f.gr G4).md M5).gr G6).md M7).kz K8)
   refine qe rfl (Qr Zn rfl rfl rfl U rfl rfl) ?_
   rintro _ w9 ⟨V,M9⟩
   have aP:=M9.size
   refine qm rfl<|qb<|⟨_,_,rfl,Xy rfl (Zf Zn rfl V rfl) (Qn rfl),?_⟩
   refine qn 3 rfl<|qe rfl (Qz (cs:=[.nilFunc,.nilFunc,.nilFunc,.nilFunc]) Vt rfl) ?_
   rintro _ aQ ⟨aR,rfl,W,s,I⟩
   have aS:=I.size
   have ay:=s.lt
   refine qe rfl (Qr Zn rfl rfl rfl s rfl rfl) ?_
   rintro _ aT ⟨az,J⟩
   have aU:=J.size
   refine qm rfl<|qd 2 rfl<|qn 2 rfl<|Qa ?_
   refine Qs ?_
   have X:=((((B.kz K8).md M9).trans I).md J)
   cases hm
   exact⟨_,_,rfl,Xj rfl (Qn rfl),rfl,X⟩
 refine qu<|qs 6 rfl<|qv rfl (Qg Hj rfl) ?_
 have C:=((((((z.gr G3).gr G4).md M5).gr G6).md M7).kz K8)
 refine qv rfl (Ql (v:=bv p0.Kind) Zj rfl C rfl) ?_
 by_cases c2:(Xr p0.Kind=1∨Xr p0.Kind=2∨Xr p0.Kind=3)
 · replace hm:=Li c2 hm
   refine qv rfl (Fp Tryz.underlying229 (Zn).siz rfl rfl (by omega)) ?_
   have Y:=(G.kz K8)
   refine qv rfl (Jm (vs:=[.func (.func 116) #[] #[],.func (.func 117) #[] #[],.func (.func 118) #[] #[],.func (.func 119) #[] #[]]) Zn rfl Y (by rcases c2 with h|h|h<;>rw[h]<;>rfl) rfl)<|qe rfl (Qz (cs:=[.nilFunc,.nilFunc,.nilFunc,.nilFunc]) Vt rfl) ?_
   rintro _ aV ⟨aW,rfl,Z,t,g⟩
   have aX:=g.size
   have aA:=t.lt
   refine qe rfl (Qr Zn rfl rfl rfl t rfl rfl) ?_
   rintro _ aY ⟨K,i⟩
   have aZ:=i.size
   refine Qa<|Qj<|dw [([b3])] [] (.leaf [(0,10),(1,10),(2,10),(3,10),(4,0),(5,0),(6,10)]) ?_
   intro aa j aB
   refine Xo ?_
   have L:=(K.gr j)
   refine dh 0 rfl rfl (fun w hS=>Jm (vs:=[.func (.func 116) #[] #[],.func (.func 117) #[] #[],.func (.func 118) #[] #[],.func (.func 119) #[] #[]]) Zn rfl (Bx.kp L hS) rfl rfl)<|dh 0 rfl rfl (fun w hS=>Qg Su rfl)<|dh 0 rfl rfl (fun w hS=>Ql (v:=.func (.func 116) #[] #[]) Lo rfl (Bx.kp L hS) rfl) ?_
   have ab:=(((C.gr g).md i).gr j)
   refine dh 0 rfl rfl (fun w hS=>Qu Jr rfl (Bx.kp ab hS) rfl) ?_
   obtain⟨x2,ac,hm⟩:=Qd hm
   refine qz [] rfl (Vk Ae rfl rfl (Et ac)) ⟨fun _=>Qb,trivial⟩ ?_
   rintro _ a0 ⟨rfl,c⟩
   have a2:=c.size
   refine kG c ?_
   have ad:=(((((((((f.gr G4).md M5).gr G6).md M7).kz K8).gr g).md i).gr j).gr c)
   refine qz [(1,b3)] rfl (Qr Zn rfl rfl rfl ad rfl rfl) ⟨fun _=>Qb,trivial⟩ ?_
   rintro _ a3 ⟨M,k⟩
   have a4:=k.size
   refine kM k ?_
   have ae:=(((Kp.refl ([b3]) aa).gr c).md k)
   refine dn 0 rfl rfl ae<|Qa<|Qs<|⟨_,_,rfl,Xy rfl (Zf Zn rfl M rfl) (Qn rfl),?_⟩
   refine qn 3 rfl<|qe rfl (Qz (cs:=[.nilFunc,.nilFunc,.nilFunc,.nilFunc]) Vt rfl) ?_
   rintro _ a5 ⟨a6,rfl,af,u,N⟩
   have a7:=N.size
   have aC:=u.lt
   refine qe rfl (Qr Zn rfl rfl rfl u rfl rfl) ?_
   rintro _ a8 ⟨aD,O⟩
   have a9:=O.size
   refine qm rfl<|qd 2 rfl<|qn 2 rfl<|Qa ?_
   refine Qs ?_
   have ag:=((((((((B.kz K8).trans g).md i).trans j).trans c).md k).trans N).md O)
   cases hm
   exact⟨_,_,rfl,Xj rfl (Qn rfl),rfl,ag⟩
 replace hm:=Lh c2 hm
 by_cases c3:(Xr p0.Kind=4)
 · replace hm:=Li c3 hm
   refine qv rfl (Fp Tryz.underlying229 (Zn).siz rfl rfl (by omega)) ?_
   have ah:=(G.kz K8)
   refine qv rfl (Jm (vs:=[.func (.func 99) #[] #[],.func (.func 120) #[] #[],.func (.func 121) #[] #[],.func (.func 122) #[] #[]]) Zn rfl ah (by rw[c3];rfl) rfl)<|qe rfl (Qz (cs:=[.nilFunc,.nilFunc,.nilFunc,.nilFunc]) Vt rfl) ?_
   rintro _ ba ⟨bb,rfl,ai,x,l⟩
   have bc:=l.size
   have aE:=x.lt
   refine qe rfl (Qr Zn rfl rfl rfl x rfl rfl) ?_
   rintro _ bd ⟨P,m⟩
   have be:=m.size
   refine Qa<|Qj<|dw [([b3])] [] (.leaf [(0,10),(1,10),(2,10),(3,10),(4,0),(5,0),(6,10)]) ?_
   intro aj n aF
   refine Xo ?_
   have Q:=(P.gr n)
   refine dh 0 rfl rfl (fun w hS=>Jm (vs:=[.func (.func 99) #[] #[],.func (.func 120) #[] #[],.func (.func 121) #[] #[],.func (.func 122) #[] #[]]) Zn rfl (Bx.kp Q hS) rfl rfl)<|dh 0 rfl rfl (fun w hS=>Qg Su rfl)<|dh 0 rfl rfl (fun w hS=>Ql (v:=.func (.func 99) #[] #[]) Lo rfl (Bx.kp Q hS) rfl) ?_
   have ak:=(((C.gr l).md m).gr n)
   refine dh 0 rfl rfl (fun w hS=>Qu Jr rfl (Bx.kp ak hS) rfl) ?_
   obtain⟨x3,al,hm⟩:=Qd hm
   refine qz [] rfl (Vk Qbc rfl rfl (Qd0 al)) ⟨fun _=>Qb,trivial⟩ ?_
   rintro _ bf ⟨rfl,d⟩
   have bg:=d.size
   refine kG d ?_
   have am:=(((((((((f.gr G4).md M5).gr G6).md M7).kz K8).gr l).md m).gr n).gr d)
   refine qz [(1,b3)] rfl (Qr Zn rfl rfl rfl am rfl rfl) ⟨fun _=>Qb,trivial⟩ ?_
   rintro _ bh ⟨R,o⟩
   have bi:=o.size
   refine kM o ?_
   have an:=(((Kp.refl ([b3]) aj).gr d).md o)
   refine dn 0 rfl rfl an<|Qa<|Qs<|⟨_,_,rfl,Xy rfl (Zf Zn rfl R rfl) (Qn rfl),?_⟩
   refine qn 3 rfl<|qe rfl (Qz (cs:=[.nilFunc,.nilFunc,.nilFunc,.nilFunc]) Vt rfl) ?_
   rintro _ bj ⟨bk,rfl,ao,y,S⟩
   have bl:=S.size
   have aG:=y.lt
   refine qe rfl (Qr Zn rfl rfl rfl y rfl rfl) ?_
   rintro _ bm ⟨aH,T⟩
   have bn:=T.size
   refine qm rfl<|qd 2 rfl<|qn 2 rfl<|Qa ?_
   refine Qs ?_
   have ap:=((((((((B.kz K8).trans l).md m).trans n).trans d).md o).trans S).md T)
   cases hm
   exact⟨_,_,rfl,Xj rfl (Qn rfl),rfl,ap⟩
 replace hm:=Lh c3 hm
 cases hm
theorem Ql5 {p0 p1 r}(hm:Qc0 p0 p1=some r){w:World}:
 Calls Tryz.prog 71 [.agg (Xn.cs p0).toArray,.agg (Zi.cs p1).toArray].toArray w fun e w'=>∃ v,e=.returned v∧(v=.int .i64 r∧Gr w w'):=by
 unfold Qc0 at hm
 refine Xu 13 Tryz.func71 rfl rfl rfl<|qs 3 rfl<|qe rfl (Xp (cs:=Xn.cs p0) rfl rfl) ?_
 rintro _ w1 ⟨b1,rfl,i,c,G1⟩
 have z1:=G1.size
 have k:=c.lt
 refine qe rfl (Xp (cs:=Zi.cs p1) rfl rfl) ?_
 rintro _ w2 ⟨b2,rfl,j,d,G2⟩
 have z3:=G2.size
 have l:=d.lt
 refine qm rfl<|Qa<|Qj<|qs 3 rfl ?_
 have B5:=(c.gr G2)
 refine qv rfl (Qu Jr rfl B5 rfl) ?_
 obtain⟨x1,f,hm⟩:=Qd hm
 refine qe rfl (eC Qkq rfl (Ql1 f)) ?_
 rintro _ w3 ⟨rfl,G3⟩
 have z6:=G3.size
 refine qm rfl<|qd 2 rfl<|qm rfl<|qv rfl (Zp (a:=x1) (b:=0) rfl rfl)<|Qa ?_
 refine Zv hm rfl (fun c1 hm=>?_) (fun c1 hm=>?_)
 · refine qs 2 rfl<|qn 2 rfl<|Qa<|Qs<|Zb ?_
   have X7:=((((Gr.refl w).trans G1).trans G2).trans G3)
   cases hm
   exact⟨_,_,rfl,Xj rfl (Qn rfl),rfl,X7⟩
 refine qu<|qs 3 rfl ?_
 have B8:=(d.gr G3)
 refine qv rfl (Qu Ya rfl B8 rfl) ?_
 obtain⟨x2,g,hm⟩:=Qd hm
 refine qe rfl (eC Mp rfl (Mq g)) ?_
 rintro _ w4 ⟨rfl,G4⟩
 have z9:=G4.size
 refine qm rfl<|Qa<|Qs ?_
 have h:=(((((Gr.refl w).trans G1).trans G2).trans G3).trans G4)
 cases hm
 exact⟨_,_,rfl,Xj rfl (Qn rfl),rfl,h⟩
theorem Qrn {p0 p1 p2 r}(hm:Qg4 p0 p1 p2=some r){w:World}:
 Calls Tryz.prog 14 [kv p0,.agg (Xn.cs p1).toArray,.int .i64 p2].toArray w fun e w'=>∃ v,e=.returned v∧(∃ ur0_1 zr0_1 gr0_1,v=.tuple [.agg (Xt.cs r.1 ur0_1).toArray,.int .i64 r.2].toArray∧Qe w' zr0_1 gr0_1 120 18 ur0_1 (r.1.Labels.map Zr.cs)∧Xk (zr0_1=0∨w.heap.size≤gr0_1)∧Gr w w'):=by
 unfold Qg4 at hm
 refine Xu 27 Tryz.func14 rfl rfl rfl<|qs 4 rfl<|qe rfl (Xp (cs:=kb p0) rfl rfl) ?_
 rintro _ w1 ⟨b1,rfl,be,Q,G1⟩
 have z1:=G1.size
 have bB:=Q.lt
 refine qe rfl (Xp (cs:=Xn.cs p1) rfl rfl) ?_
 rintro _ w2 ⟨b2,rfl,bf,ad,G2⟩
 have z3:=G2.size
 have bC:=ad.lt
 refine qe rfl (Qz (cs:=Xt.cs (Xt.mk 0 [] (Qx.mk 0#64 0#64)) (.slice none 0 0)) Eh rfl) ?_
 rintro _ w3 ⟨b3,rfl,bg,z,G3⟩
 have z5:=G3.size
 have bD:=z.lt
 refine qm rfl<|qd 8 rfl ?_
 have B7:=(ad.gr G3)
 refine qv rfl (Qu Jr rfl B7 rfl)<|Lr 33 Tryz.func51 rfl rfl rfl Qba rfl rfl rfl rfl rfl<|qs 3 rfl<|qe rfl (Xp (cs:=Xn.cs p1) rfl rfl) ?_
 rintro _ w4 ⟨b4,rfl,bh,R,G4⟩
 have z8:=G4.size
 have bE:=R.lt
 refine qe rfl (Qz (cs:=[.nilFunc,.nilFunc,.nilFunc,.nilFunc]) Vt rfl) ?_
 rintro _ w5 ⟨b5,rfl,bi,I,G5⟩
 have bF:=G5.size
 have bj:=I.lt
 refine qm rfl<|qd 3 rfl<|qv rfl (Zk (cs:=[.func (.func 116) #[] #[],.func (.func 117) #[] #[],.func (.func 118) #[] #[],.func (.func 119) #[] #[]]) Hr rfl rfl)<|qe rfl (Qz (cs:=[.nilFunc,.nilFunc,.nilFunc,.nilFunc]) Vt rfl) ?_
 rintro _ w6 ⟨b6,rfl,bk,ae,G6⟩
 have bG:=G6.size
 have bl:=ae.lt
 refine qe rfl (Qr Zn rfl rfl rfl ae rfl rfl) ?_
 rintro _ w7 ⟨S,M7⟩
 have bH:=M7.size
 refine qd 8 rfl<|qv rfl (Zk (cs:=[.nilFunc,.nilFunc,.nilFunc,.nilFunc]) Hr rfl rfl)<|qv rfl (Jm (vs:=[.func (.func 116) #[] #[],.func (.func 117) #[] #[],.func (.func 118) #[] #[],.func (.func 119) #[] #[]]) Zn rfl S rfl rfl)<|qv rfl (Jm (vs:=[.func (.func 116) #[] #[],.func (.func 117) #[] #[],.func (.func 118) #[] #[],.func (.func 119) #[] #[]]) Zn rfl S rfl rfl)<|qv rfl (Jm (vs:=[.func (.func 116) #[] #[],.func (.func 117) #[] #[],.func (.func 118) #[] #[],.func (.func 119) #[] #[]]) Zn rfl S rfl rfl) ?_
 refine qv rfl (Zk (cs:=[.func (.func 99) #[] #[],.func (.func 120) #[] #[],.func (.func 121) #[] #[],.func (.func 122) #[] #[]]) Hr rfl rfl)<|qv rfl (Ea (cs:=[.nilFunc,.nilFunc,.nilFunc,.nilFunc,.func (.func 116) #[] #[],.func (.func 117) #[] #[],.func (.func 118) #[] #[],.func (.func 119) #[] #[],.func (.func 116) #[] #[],.func (.func 117) #[] #[],.func (.func 118) #[] #[],.func (.func 119) #[] #[],.func (.func 116) #[] #[],.func (.func 117) #[] #[],.func (.func 118) #[] #[],.func (.func 119) #[] #[],.func (.func 99) #[] #[],.func (.func 120) #[] #[],.func (.func 121) #[] #[],.func (.func 122) #[] #[]]) Qa1 rfl rfl)<|qe rfl (Qz (cs:=[.nilFunc,.nilFunc,.nilFunc,.nilFunc,.nilFunc,.nilFunc,.nilFunc,.nilFunc,.nilFunc,.nilFunc,.nilFunc,.nilFunc,.nilFunc,.nilFunc,.nilFunc,.nilFunc,.nilFunc,.nilFunc,.nilFunc,.nilFunc]) Ov rfl) ?_
 rintro _ w8 ⟨b8,rfl,bm,af,G8⟩
 have bI:=G8.size
 have bn:=af.lt
 refine qe rfl (Qr Qa0 rfl rfl rfl af rfl rfl) ?_
 rintro _ w9 ⟨ag,M9⟩
 have bJ:=M9.size
 refine Qa<|Qj ?_
 have H:=((((((((((Gr.refl w).trans G1).trans G2).trans G3).trans G4).trans G5).trans G6).md M7).trans G8).md M9)
 refine qj (β:=Bool) (rg 14 9) (fun a1=>[(22,.bool a1)]) (fun a1 wr=>(Qbr p0 p1 p2 a1=some r)∧Kz [] w9 wr) ?_ ?_
 · refine qg 9 rfl<|qv rfl (Qg Hj rfl) ?_
   have Y1:=Gr.trans G5 G6
   have ah:=((((R.gr Y1).md M7).gr G8).md M9)
   refine qv rfl (Ql (v:=bv p1.Kind) Zj rfl ah rfl)<|qv rfl (Ee (p:=p1.Kind) (q:=1#8) rfl rfl)<|Zm hm rfl (Qw rfl) (fun c6 hm=>?_) (fun c6 hm=>?_)
   · refine qn 5 rfl<|Qi ?_
     exact⟨rfl,true,Qh,hm,Xi⟩
   refine qv rfl (Qg Hj rfl)<|qv rfl (Ql (v:=bv p1.Kind) Zj rfl ah rfl)<|qv rfl (Oj Po rfl)<|qv rfl (Vd (a:=Xr p1.Kind) (b:=5) rfl rfl)<|qm rfl<|Qi ?_
   exact⟨rfl,(decide ((5:Int)≤Xr p1.Kind)),Qh,hm,Xi⟩
 clear hm;rintro a1 bK ⟨hm,c⟩
 have bL:=c.size
 unfold Qbr at hm
 refine Zw hm rfl (fun c1 hm=>?_) (fun c1 hm=>?_)
 · refine qs 3 rfl<|qv rfl (Zk (cs:=[.nilFunc,.nilFunc,.nilFunc,.nilFunc]) Hr rfl rfl) ?_
   have aC:=(((((I.gr G6).md M7).gr G8).md M9).kz c)
   refine qe rfl (Qr Zn rfl rfl rfl aC rfl rfl) ?_
   rintro _ bM ⟨ai,T⟩
   have bN:=T.size
   refine qm rfl<|qb<|⟨_,_,rfl,Xy rfl (Zf Zn rfl ai rfl) (Qn rfl),?_⟩
   refine qn 3 rfl<|qe rfl (Qz (cs:=[.nilFunc,.nilFunc,.nilFunc,.nilFunc]) Vt rfl) ?_
   rintro _ bO ⟨bP,rfl,aD,L,U⟩
   have bQ:=U.size
   have bo:=L.lt
   refine qe rfl (Qr Zn rfl rfl rfl L rfl rfl) ?_
   rintro _ bR ⟨bp,V⟩
   have bS:=V.size
   refine qm rfl<|Qa<|Qj<|qs 2 rfl<|qm rfl<|qv rfl (Zp (a:=2) (b:=0) rfl rfl) ?_
   refine Qa<|Td rfl<|qs 4 rfl<|qv rfl (Zk (cs:=Xt.cs (Xt.mk 0 [] (Qx.mk 0#64 0#64)) (.slice none 0 0)) Ns rfl rfl)<|qm rfl ?_
   have Y2:=Gr.trans (Gr.trans G4 G5) G6
   have aE:=((((((((z.gr Y2).md M7).gr G8).md M9).kz c).md T).gr U).md V)
   refine qe rfl (Qr Vf rfl rfl (Xt.cs_ones _ _ rfl) aE rfl rfl) ?_
   rintro _ bT ⟨aj,ak⟩
   have bU:=ak.size
   refine qm rfl<|qb ?_
   have aF:=(((((H.kz c).md T).trans U).md V).md ak)
   cases hm
   exact⟨_,_,rfl,Xy rfl (Zf Vf rfl aj rfl) (Qn rfl),(.slice none 0 0),0,0,rfl,(Za _ 0 120 18),⟨.inl rfl⟩,aF⟩
 refine qu<|qs 6 rfl<|qv rfl (Qg Hj rfl) ?_
 have Y3:=Gr.trans G5 G6
 have W:=(((((R.gr Y3).md M7).gr G8).md M9).kz c)
 refine qv rfl (Ql (v:=bv p1.Kind) Zj rfl W rfl) ?_
 by_cases c2:(Xr p1.Kind=1∨Xr p1.Kind=2∨Xr p1.Kind=3)
 · replace hm:=Li c2 hm
   refine qv rfl (Fp Tryz.underlying229 (Zn).siz rfl rfl (by omega)) ?_
   have aG:=(ag.kz c)
   refine qv rfl (Jm (vs:=[.func (.func 116) #[] #[],.func (.func 117) #[] #[],.func (.func 118) #[] #[],.func (.func 119) #[] #[]]) Zn rfl aG (by rcases c2 with h|h|h<;>rw[h]<;>rfl) rfl)<|qe rfl (Qz (cs:=[.nilFunc,.nilFunc,.nilFunc,.nilFunc]) Vt rfl) ?_
   rintro _ bV ⟨bW,rfl,aH,M,j⟩
   have bX:=j.size
   have bq:=M.lt
   refine qe rfl (Qr Zn rfl rfl rfl M rfl rfl) ?_
   rintro _ bY ⟨al,k⟩
   have bZ:=k.size
   refine Qa<|Qj<|dw [([b5])] [] (.leaf [(0,10),(1,10),(2,10),(3,10),(4,0),(5,0),(6,10)]) ?_
   intro aI X br
   refine Xo ?_
   have am:=(al.gr X)
   refine dh 0 rfl rfl (fun w hS=>Jm (vs:=[.func (.func 116) #[] #[],.func (.func 117) #[] #[],.func (.func 118) #[] #[],.func (.func 119) #[] #[]]) Zn rfl (Bx.kp am hS) rfl rfl)<|dh 0 rfl rfl (fun w hS=>Qg Su rfl)<|dh 0 rfl rfl (fun w hS=>Ql (v:=.func (.func 116) #[] #[]) Lo rfl (Bx.kp am hS) rfl) ?_
   have aJ:=(((W.gr j).md k).gr X)
   refine dh 0 rfl rfl (fun w hS=>Qu Jr rfl (Bx.kp aJ hS) rfl) ?_
   obtain⟨x2,aK,hm⟩:=Qd hm
   refine qz [] rfl (Vk Ae rfl rfl (Et aK)) ⟨fun _=>Qb,trivial⟩ ?_
   rintro _ b0 ⟨rfl,J⟩
   have b7:=J.size
   refine kG J ?_
   have Y4:=Gr.trans X J
   have aL:=((((((((I.gr G6).md M7).gr G8).md M9).kz c).gr j).md k).gr Y4)
   refine qz [(1,b5)] rfl (Qr Zn rfl rfl rfl aL rfl rfl) ⟨fun _=>Qb,trivial⟩ ?_
   rintro _ b9 ⟨an,l⟩
   have ca:=l.size
   refine kM l ?_
   have aM:=(((Kp.refl ([b5]) aI).gr J).md l)
   refine dn 0 rfl rfl aM<|Qa<|Qs<|⟨_,_,rfl,Xy rfl (Zf Zn rfl an rfl) (Qn rfl),?_⟩
   refine qn 3 rfl<|qe rfl (Qz (cs:=[.nilFunc,.nilFunc,.nilFunc,.nilFunc]) Vt rfl) ?_
   rintro _ cb ⟨cc,rfl,aN,N,s⟩
   have cd:=s.size
   have bs:=N.lt
   refine qe rfl (Qr Zn rfl rfl rfl N rfl rfl) ?_
   rintro _ ce ⟨ao,t⟩
   have cf:=t.size
   refine qm rfl<|Qa<|Qj<|qs 2 rfl<|qm rfl<|qv rfl (Zp (a:=x2) (b:=0) rfl rfl) ?_
   refine Qa<|Zv hm rfl (fun c3 hm=>?_) (fun c3 hm=>?_)
   · refine qs 4 rfl<|qv rfl (Zk (cs:=Xt.cs (Xt.mk 0 [] (Qx.mk 0#64 0#64)) (.slice none 0 0)) Ns rfl rfl)<|qm rfl ?_
     have Y5:=Gr.trans G4 Y3
     have aO:=(((((((((((z.gr Y5).md M7).gr G8).md M9).kz c).gr j).md k).gr Y4).md l).gr s).md t)
     refine qe rfl (Qr Vf rfl rfl (Xt.cs_ones _ _ rfl) aO rfl rfl) ?_
     rintro _ cg ⟨ap,aq⟩
     have ch:=aq.size
     refine qm rfl<|qb ?_
     have aP:=((((((((H.kz c).trans j).md k).trans Y4).md l).trans s).md t).md aq)
     cases hm
     exact⟨_,_,rfl,Xy rfl (Zf Vf rfl ap rfl) (Qn rfl),(.slice none 0 0),0,0,rfl,(Za _ 0 120 18),⟨.inl rfl⟩,aP⟩
   refine qu<|qs 10 rfl<|qv rfl (Qg Qlh rfl)<|qv rfl (Ql (v:=.func (.func 117) #[] #[]) Qhi rfl ao rfl) ?_
   have Y6:=Gr.trans (Gr.trans (Gr.trans G2 G3) G4) Y3
   have aQ:=(((((((((((Q.gr Y6).md M7).gr G8).md M9).kz c).gr j).md k).gr Y4).md l).gr s).md t)
   refine qv rfl (Qu Qy rfl aQ rfl) ?_
   have Y7:=Gr.trans G4 Y3
   have aR:=(((((((((((B7.gr Y7).md M7).gr G8).md M9).kz c).gr j).md k).gr Y4).md l).gr s).md t)
   refine qv rfl (Qu Jr rfl aR rfl)<|qm rfl ?_
   obtain⟨x3,aS,hm⟩:=Qd hm
   refine qe rfl (Vk Qq0 rfl rfl (Qpe aS)) ?_
   rintro _ ci ⟨B,C,D,rfl,d,g,Y⟩
   have cj:=Y.size
   have bu:=d.lth
   refine qn 2 rfl ?_
   have aT:=((((((((((((z.gr Y7).md M7).gr G8).md M9).kz c).gr j).md k).gr Y4).md l).gr s).md t).gr Y)
   refine qe rfl (Qr Vf rfl rfl (Xt.cs_ones _ _ (Qe.oneB d)) aT rfl rfl) ?_
   rintro _ ck ⟨ar,Z⟩
   have cl:=Z.size
   refine qm rfl<|Qa<|Qs ?_
   have aU:=(d.md Z (Qt g))
   have aV:=(((((((((H.kz c).trans j).md k).trans Y4).md l).trans s).md t).trans Y).md Z)
   cases hm
   exact⟨_,_,rfl,Xy rfl (Zf Vf rfl ar rfl) (Qn rfl),B,C,D,rfl,aU,⟨(Qk (A:=(fun x=>w.heap.size≤x)) g)⟩,aV⟩
 replace hm:=Lh c2 hm
 by_cases c4:(Xr p1.Kind=4)
 · replace hm:=Li c4 hm
   refine qv rfl (Fp Tryz.underlying229 (Zn).siz rfl rfl (by omega)) ?_
   have aW:=(ag.kz c)
   refine qv rfl (Jm (vs:=[.func (.func 99) #[] #[],.func (.func 120) #[] #[],.func (.func 121) #[] #[],.func (.func 122) #[] #[]]) Zn rfl aW (by rw[c4];rfl) rfl)<|qe rfl (Qz (cs:=[.nilFunc,.nilFunc,.nilFunc,.nilFunc]) Vt rfl) ?_
   rintro _ cm ⟨cn,rfl,aX,O,m⟩
   have co:=m.size
   have bw:=O.lt
   refine qe rfl (Qr Zn rfl rfl rfl O rfl rfl) ?_
   rintro _ cp ⟨au,n⟩
   have cq:=n.size
   refine Qa<|Qj<|dw [([b5])] [] (.leaf [(0,10),(1,10),(2,10),(3,10),(4,0),(5,0),(6,10)]) ?_
   intro aY aa bx
   refine Xo ?_
   have av:=(au.gr aa)
   refine dh 0 rfl rfl (fun w hS=>Jm (vs:=[.func (.func 99) #[] #[],.func (.func 120) #[] #[],.func (.func 121) #[] #[],.func (.func 122) #[] #[]]) Zn rfl (Bx.kp av hS) rfl rfl)<|dh 0 rfl rfl (fun w hS=>Qg Su rfl)<|dh 0 rfl rfl (fun w hS=>Ql (v:=.func (.func 99) #[] #[]) Lo rfl (Bx.kp av hS) rfl) ?_
   have aZ:=(((W.gr m).md n).gr aa)
   refine dh 0 rfl rfl (fun w hS=>Qu Jr rfl (Bx.kp aZ hS) rfl) ?_
   obtain⟨x4,a0,hm⟩:=Qd hm
   refine qz [] rfl (Vk Qbc rfl rfl (Qd0 a0)) ⟨fun _=>Qb,trivial⟩ ?_
   rintro _ cr ⟨rfl,K⟩
   have ct:=K.size
   refine kG K ?_
   have Y8:=Gr.trans aa K
   have a2:=((((((((I.gr G6).md M7).gr G8).md M9).kz c).gr m).md n).gr Y8)
   refine qz [(1,b5)] rfl (Qr Zn rfl rfl rfl a2 rfl rfl) ⟨fun _=>Qb,trivial⟩ ?_
   rintro _ cu ⟨aw,o⟩
   have cv:=o.size
   refine kM o ?_
   have a3:=(((Kp.refl ([b5]) aY).gr K).md o)
   refine dn 0 rfl rfl a3<|Qa<|Qs<|⟨_,_,rfl,Xy rfl (Zf Zn rfl aw rfl) (Qn rfl),?_⟩
   refine qn 3 rfl<|qe rfl (Qz (cs:=[.nilFunc,.nilFunc,.nilFunc,.nilFunc]) Vt rfl) ?_
   rintro _ cw ⟨cx,rfl,a4,P,u⟩
   have cy:=u.size
   have bz:=P.lt
   refine qe rfl (Qr Zn rfl rfl rfl P rfl rfl) ?_
   rintro _ cz ⟨ax,y⟩
   have cA:=y.size
   refine qm rfl<|Qa<|Qj<|qs 2 rfl<|qm rfl<|qv rfl (Zp (a:=x4) (b:=0) rfl rfl) ?_
   refine Qa<|Zv hm rfl (fun c5 hm=>?_) (fun c5 hm=>?_)
   · refine qs 4 rfl<|qv rfl (Zk (cs:=Xt.cs (Xt.mk 0 [] (Qx.mk 0#64 0#64)) (.slice none 0 0)) Ns rfl rfl)<|qm rfl ?_
     have Y9:=Gr.trans G4 Y3
     have a5:=(((((((((((z.gr Y9).md M7).gr G8).md M9).kz c).gr m).md n).gr Y8).md o).gr u).md y)
     refine qe rfl (Qr Vf rfl rfl (Xt.cs_ones _ _ rfl) a5 rfl rfl) ?_
     rintro _ cB ⟨ay,az⟩
     have cC:=az.size
     refine qm rfl<|qb ?_
     have a6:=((((((((H.kz c).trans m).md n).trans Y8).md o).trans u).md y).md az)
     cases hm
     exact⟨_,_,rfl,Xy rfl (Zf Vf rfl ay rfl) (Qn rfl),(.slice none 0 0),0,0,rfl,(Za _ 0 120 18),⟨.inl rfl⟩,a6⟩
   refine qu<|qs 10 rfl<|qv rfl (Qg Qlh rfl)<|qv rfl (Ql (v:=.func (.func 120) #[] #[]) Qhi rfl ax rfl) ?_
   have a7:=Gr.trans (Gr.trans (Gr.trans G2 G3) G4) Y3
   have a8:=(((((((((((Q.gr a7).md M7).gr G8).md M9).kz c).gr m).md n).gr Y8).md o).gr u).md y)
   refine qv rfl (Qu Qy rfl a8 rfl) ?_
   have aA:=Gr.trans G4 Y3
   have a9:=(((((((((((B7.gr aA).md M7).gr G8).md M9).kz c).gr m).md n).gr Y8).md o).gr u).md y)
   refine qv rfl (Qu Jr rfl a9 rfl)<|qm rfl ?_
   obtain⟨x5,ba,hm⟩:=Qd hm
   refine qe rfl (Vk Qq3 rfl rfl (Qu8 ba)) ?_
   rintro _ cD ⟨E,F,G,rfl,f,i,ab⟩
   have cE:=ab.size
   have bA:=f.lth
   refine qn 2 rfl ?_
   have bb:=((((((((((((z.gr aA).md M7).gr G8).md M9).kz c).gr m).md n).gr Y8).md o).gr u).md y).gr ab)
   refine qe rfl (Qr Vf rfl rfl (Xt.cs_ones _ _ (Qe.oneB f)) bb rfl rfl) ?_
   rintro _ cF ⟨aB,ac⟩
   have cG:=ac.size
   refine qm rfl<|Qa<|Qs ?_
   have bc:=(f.md ac (Qt i))
   have bd:=(((((((((H.kz c).trans m).md n).trans Y8).md o).trans u).md y).trans ab).md ac)
   cases hm
   exact⟨_,_,rfl,Xy rfl (Zf Vf rfl aB rfl) (Qn rfl),E,F,G,rfl,bc,⟨(Qk (A:=(fun x=>w.heap.size≤x)) i)⟩,bd⟩
 replace hm:=Lh c4 hm
 cases hm
theorem Dd {p0 p1 p2 p3 p4 r}(hm:Mu p0 p1 p2 p3 p4=some r){w:World}:
 Calls Tryz.prog 29 [kv p0,.agg (Xn.cs p1).toArray,.agg (Zi.cs p2).toArray,.int .i64 p3,.int .i64 p4].toArray w fun e w'=>∃ v,e=.returned v∧(∃ ur0_1 zr0_1 gr0_1,v=.tuple [.agg (Xl.cs r.1 ur0_1).toArray,.int .i64 r.2].toArray∧Qe w' zr0_1 gr0_1 120 18 ur0_1 (r.1.Secret.Labels.map Zr.cs)∧Xk (zr0_1=0∨w.heap.size≤gr0_1)∧Gr w w'):=by
 unfold Mu at hm
 refine Xu 48 Tryz.func29 rfl rfl rfl<|qs 5 rfl<|qe rfl (Xp (cs:=kb p0) rfl rfl) ?_
 rintro _ w1 ⟨b1,rfl,V,o,G1⟩
 have z1:=G1.size
 have aa:=o.lt
 refine qe rfl (Xp (cs:=Xn.cs p1) rfl rfl) ?_
 rintro _ w2 ⟨b2,rfl,W,p,G2⟩
 have z3:=G2.size
 have ab:=p.lt
 refine qe rfl (Xp (cs:=Zi.cs p2) rfl rfl) ?_
 rintro _ w3 ⟨b3,rfl,X,q,G3⟩
 have z5:=G3.size
 have ac:=q.lt
 refine qe rfl (Qz (cs:=Xl.cs (Xl.mk (Xt.mk 0 [] (Qx.mk 0#64 0#64)) 0 (Jg.mk (Xw.mk false 0 k0) (Xw.mk false 0 k0))) (.slice none 0 0)) Vx rfl) ?_
 rintro _ w4 ⟨b4,rfl,Y,h,G4⟩
 have z7:=G4.size
 have ad:=h.lt
 refine qm rfl<|Qa<|Qj<|qs 4 rfl ?_
 have Y1:=Gr.trans G3 G4
 have B9:=(p.gr Y1)
 refine qv rfl (Qu Jr rfl B9 rfl) ?_
 have s:=(q.gr G4)
 refine qv rfl (Qu Ya rfl s rfl) ?_
 obtain⟨x1,F,hm⟩:=Qd hm
 refine qe rfl (eC Qku rfl (Ql5 F)) ?_
 rintro _ w5 ⟨rfl,G5⟩
 have ae:=G5.size
 refine qm rfl<|qd 2 rfl<|qm rfl<|qv rfl (Zp (a:=x1) (b:=0) rfl rfl)<|Qa ?_
 refine Zv hm rfl (fun c1 hm=>?_) (fun c1 hm=>?_)
 · refine qs 4 rfl<|qv rfl (Zk (cs:=Xl.cs (Xl.mk (Xt.mk 0 [] (Qx.mk 0#64 0#64)) 0 (Jg.mk (Xw.mk false 0 k0) (Xw.mk false 0 k0))) (.slice none 0 0)) Cr rfl (by kernel_rfl))<|qm rfl ?_
   have G:=(h.gr G5)
   refine qe rfl (Qr Ju rfl rfl (Xl.cs_ones _ _ rfl) G rfl rfl) ?_
   rintro _ w6 ⟨H,M6⟩
   have af:=M6.size
   refine qm rfl<|qb ?_
   have Y2:=Gr.trans (Gr.trans (Gr.trans G1 G2) Y1) G5
   have I:=(((Gr.refl w).trans Y2).md M6)
   cases hm
   exact⟨_,_,rfl,Xy rfl (Zf Ju rfl H rfl) (Qn rfl),(.slice none 0 0),0,0,rfl,(Za _ 0 120 18),⟨.inl rfl⟩,I⟩
 refine qu<|Qj ?_
 have Y3:=Gr.trans (Gr.trans (Gr.trans G1 G2) Y1) G5
 have m:=((Gr.refl w).trans Y3)
 refine qj (β:=Bool) (rg 22 11) (fun a2=>[(32,.bool a2)]) (fun a2 wr=>(Qbm p0 p1 p3 p4 a2=some r)∧Kz [] w5 wr) ?_ ?_
 · refine qg 11 rfl<|qm rfl<|qv rfl (Qg De rfl) ?_
   have t:=(s.gr G5)
   refine qv rfl (Ql (v:=.int .i64 p2.Drift) Xm rfl t rfl)<|qv rfl (Qo1 (a:=p2.Drift) rfl)<|qv rfl (Jb (a:=p4) (b:=Qp (-p2.Drift)) rfl rfl)<|Zm hm rfl (Qw rfl) (fun c4 hm=>?_) (fun c4 hm=>?_)
   · refine qn 5 rfl<|Qi ?_
     exact⟨rfl,true,Qh,hm,Xi⟩
   refine qm rfl<|qv rfl (Qg De rfl)<|qv rfl (Ql (v:=.int .i64 p2.Drift) Xm rfl t rfl)<|qv rfl (Ve (a:=p4) (b:=p2.Drift) rfl rfl)<|qm rfl<|Qi ?_
   exact⟨rfl,(decide (p2.Drift<p4)),Qh,hm,Xi⟩
 clear hm;rintro a2 w7 ⟨hm,K7⟩
 have ag:=K7.size
 unfold Qbm at hm
 refine Zw hm rfl (fun c2 hm=>?_) (fun c2 hm=>?_)
 · refine qs 3 rfl<|qv rfl (Zk (cs:=Xl.cs (Xl.mk (Xt.mk 0 [] (Qx.mk 0#64 0#64)) 0 (Jg.mk (Xw.mk false 0 k0) (Xw.mk false 0 k0))) (.slice none 0 0)) Cr rfl (by kernel_rfl)) ?_
   have J:=((h.gr G5).kz K7)
   refine qe rfl (Qr Ju rfl rfl (Xl.cs_ones _ _ rfl) J rfl rfl) ?_
   rintro _ w8 ⟨K,M8⟩
   have ah:=M8.size
   refine qm rfl<|qb ?_
   have L:=((m.kz K7).md M8)
   cases hm
   exact⟨_,_,rfl,Xy rfl (Zf Ju rfl K rfl) (Qn rfl),(.slice none 0 0),0,0,rfl,(Za _ 0 120 18),⟨.inl rfl⟩,L⟩
 refine qu<|qs 10 rfl ?_
 have Y4:=Gr.trans (Gr.trans G2 Y1) G5
 have M:=((o.gr Y4).kz K7)
 refine qv rfl (Qu Qy rfl M rfl) ?_
 have N:=((B9.gr G5).kz K7)
 refine qv rfl (Qu Jr rfl N rfl)<|qm rfl ?_
 obtain⟨x3,O,hm⟩:=Qd hm
 refine qe rfl (eC Qq7 rfl (Qrn O)) ?_
 rintro _ w9 ⟨c,i,j,rfl,d,f,G9⟩
 have ai:=G9.size
 have u:=d.lth
 refine qn 3 rfl<|qe rfl (Qz (cs:=Xt.cs (Xt.mk 0 [] (Qx.mk 0#64 0#64)) (.slice none 0 0)) Eh rfl) ?_
 rintro _ aj ⟨ak,rfl,P,l,k⟩
 have al:=k.size
 have Z:=l.lt
 have y:=(d.gr k)
 refine qe rfl (Qr Vf rfl rfl (Xt.cs_ones _ _ (Qe.oneB y)) l rfl rfl) ?_
 rintro _ am ⟨z,g⟩
 have an:=g.size
 refine qm rfl<|Qa<|Qj<|qs 2 rfl<|qm rfl<|qv rfl (Zp (a:=x3.2) (b:=0) rfl rfl) ?_
 refine Qa<|Zv hm rfl (fun c3 hm=>?_) (fun c3 hm=>?_)
 · refine qs 4 rfl<|qv rfl (Zk (cs:=Xl.cs (Xl.mk (Xt.mk 0 [] (Qx.mk 0#64 0#64)) 0 (Jg.mk (Xw.mk false 0 k0) (Xw.mk false 0 k0))) (.slice none 0 0)) Cr rfl (by kernel_rfl))<|qm rfl ?_
   have Y5:=Gr.trans G9 k
   have Q:=((((h.gr G5).kz K7).gr Y5).md g)
   refine qe rfl (Qr Ju rfl rfl (Xl.cs_ones _ _ rfl) Q rfl rfl) ?_
   rintro _ ao ⟨B,C⟩
   have ap:=C.size
   refine qm rfl<|qb ?_
   have R:=((((m.kz K7).trans Y5).md g).md C)
   cases hm
   exact⟨_,_,rfl,Xy rfl (Zf Ju rfl B rfl) (Qn rfl),(.slice none 0 0),0,0,rfl,(Za _ 0 120 18),⟨.inl rfl⟩,R⟩
 refine qu<|qs 5 rfl<|qv rfl (Qu Vf rfl z rfl)<|qm rfl<|qv rfl (Zk (cs:=Xl.cs (Xl.mk x3.1 p4 (Jg.mk (Xw.mk false 0 k0) (Xw.mk false 0 k0))) c) Cr rfl (Wa rfl rfl rfl (Wa rfl rfl rfl (by kernel_rfl)))) ?_
 have Y6:=Gr.trans G9 k
 have S:=((((h.gr G5).kz K7).gr Y6).md g)
 have D:=(y.md g (Qm u))
 refine qe rfl (Qr Ju rfl rfl (Xl.cs_ones _ _ (Qe.oneB D)) S rfl rfl) ?_
 rintro _ aq ⟨E,n⟩
 have ar:=n.size
 refine qm rfl<|Qa<|Qs ?_
 have T:=(D.md n (Qt f))
 have U:=((((m.kz K7).trans Y6).md g).md n)
 cases hm
 exact⟨_,_,rfl,Xy rfl (Zf Ju rfl E rfl) (Qn rfl),c,i,j,rfl,T,⟨(Qk (A:=(fun x=>w.heap.size≤x)) f)⟩,U⟩
end Go.Proofs.YtplcaaglieefgaaGreat.Mx
