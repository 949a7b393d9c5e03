/- Walks that follow mirrors: Xa. Printed by mx.py. -/
import Derived.Test.YtplcaaglieefgaaGreatZc
import Derived.Test.YtplcaaglieefgaaGreatZd
import Derived.Test.YtplcaaglieefgaaGreatChecked
import Derived.Test.YtplcaaglieefgaaGreatZe
set_option linter.unusedVariables false
set_option linter.unusedSimpArgs false
set_option maxRecDepth 100000
set_option maxHeartbeats 2000000
namespace Go.Proofs.YtplcaaglieefgaaGreat.Mx
open Go Go.RowKit Go.Sx
theorem Jr:Kx Tryz.prog 49 6:=fun _=>⟨by kernel_rfl,by kernel_rfl⟩
theorem Nl:ZV Tryz.prog 277 (.agg [.int .u8 0,.int .i64 0,.int .i64 0].toArray):=fun _=>by kernel_rfl
theorem Hj:FA Tryz.prog 49 0 0:=fun _ _ _=>by kernel_rfl
theorem Zj:Vn Tryz.prog 5:=fun _=>⟨by kernel_rfl,by kernel_rfl⟩
theorem Ga:FA Tryz.prog 49 1 1:=fun _ _ _=>by kernel_rfl
theorem Xm:Vn Tryz.prog 3:=fun _=>⟨by kernel_rfl,by kernel_rfl⟩
theorem Qo8:ZV Tryz.prog 49 (.agg [.int .u8 0,.int .i64 0,.int .i64 0,.int .u64 0,.int .u64 0,.int .u64 0].toArray):=fun _=>by kernel_rfl
theorem Qef:Kx Tryz.prog 24 3:=fun _=>⟨by kernel_rfl,by kernel_rfl⟩
theorem Qei:BS Tryz.prog 49 (fun i=>[(0,1),(1,1),(2,1),(3,3)][i]?) [.int .u8 0,.int .i64 0,.int .i64 0,.int .u64 0,.int .u64 0,.int .u64 0]:=Hg Tryz.underlying49 Qo8 ⟨rfl,(Zj).siz,rfl,(Xm).siz,rfl,(Xm).siz,rfl,(Qef).siz,trivial⟩
theorem Zh:Vn Tryz.prog 22:=fun _=>⟨by kernel_rfl,by kernel_rfl⟩
theorem Ax:Yt Tryz.prog 1 22 [.i .u64]:=Qgg Tryz.underlying22 Zh
theorem Qrx:Yt Tryz.prog 2 24 [.i .u64,.i .u64,.i .u64]:=Ua Tryz.underlying24 (by kernel_rfl) Qef (show Gm _ 1 _ _ _ from(Hu (ks1:=[.i .u64]) (ks2:=[.i .u64,.i .u64]) rfl (by simp) (Ax.up (by decide)) (Hu (ks1:=[.i .u64]) (ks2:=[.i .u64]) rfl (by simp) (Ax.up (by decide)) (Hu (ks1:=[.i .u64]) (ks2:=[]) rfl (by simp) (Ax.up (by decide)) (Ub _)))))
theorem Ay:Yt Tryz.prog 1 3 [.i .i64]:=Qgg Tryz.underlying3 Xm
theorem Qlc:Yt Tryz.prog 1 5 [.i .u8]:=Qgg Tryz.underlying5 Zj
theorem Qrz:Yt Tryz.prog 3 49 [.i .u8,.i .i64,.i .i64,.i .u64,.i .u64,.i .u64]:=Ua Tryz.underlying49 (by kernel_rfl) Jr (show Gm _ 2 _ _ _ from(Hu (ks1:=[.i .u8]) (ks2:=[.i .i64,.i .i64,.i .u64,.i .u64,.i .u64]) rfl (by simp) (Qlc.up (by decide)) (Hu (ks1:=[.i .i64]) (ks2:=[.i .i64,.i .u64,.i .u64,.i .u64]) rfl (by simp) (Ay.up (by decide)) (Hu (ks1:=[.i .i64]) (ks2:=[.i .u64,.i .u64,.i .u64]) rfl (by simp) (Ay.up (by decide)) (Hu (ks1:=[.i .u64,.i .u64,.i .u64]) (ks2:=[]) rfl (by simp) (Qrx.up (by decide)) (Ub _))))))
theorem Qs5:Ti Tryz.prog 49 [.i .u8,.i .i64,.i .i64,.i .u64,.i .u64,.i .u64]:=⟨by kernel_rfl,Jr,3,by decide,Qrz⟩
theorem Qa3:BS Tryz.prog 277 (fun i=>[(0,1),(1,1),(2,1)][i]?) [.int .u8 0,.int .i64 0,.int .i64 0]:=Hg Tryz.underlying277 Nl ⟨rfl,(Zj).siz,rfl,(Xm).siz,rfl,(Xm).siz,trivial⟩
theorem Kf:Kx Tryz.prog 277 3:=fun _=>⟨by kernel_rfl,by kernel_rfl⟩
theorem Ig:FA Tryz.prog 277 2 2:=fun _ _ _=>by kernel_rfl
theorem Qll:FA Tryz.prog 277 1 1:=fun _ _ _=>by kernel_rfl
theorem Qk8:En Tryz.prog 203:=fun _ _=>by kernel_rfl
theorem Eh:ZV Tryz.prog 67 (.agg [.int .i64 0,.slice none 0 0,.int .u64 0,.int .u64 0].toArray):=fun _=>by kernel_rfl
theorem Pc:Kx Tryz.prog 193 2:=fun _=>⟨by kernel_rfl,by kernel_rfl⟩
theorem Qec:ZV Tryz.prog 193 (.agg [.int .i64 0,.int .i64 0].toArray):=fun _=>by kernel_rfl
theorem Bg:FA Tryz.prog 193 0 0:=fun _ _ _=>by kernel_rfl
theorem Tw:FA Tryz.prog 193 1 1:=fun _ _ _=>by kernel_rfl
theorem Qfn:En Tryz.prog 288:=fun _ _=>by kernel_rfl
theorem Qkj:En Tryz.prog 290:=fun _ _=>by kernel_rfl
theorem Nz:FA Tryz.prog 277 0 0:=fun _ _ _=>by kernel_rfl
theorem Qpn:CV Tryz.prog 301 177 .u64:=fun _ _ _=>by kernel_rfl
theorem Qqz:En Tryz.prog 351:=fun _ _=>by kernel_rfl
theorem Rs:En Tryz.prog 347:=fun _ _=>by kernel_rfl
theorem Qfo:En Tryz.prog 291:=fun _ _=>by kernel_rfl
theorem Qfp:En Tryz.prog 292:=fun _ _=>by kernel_rfl
theorem Qfm:En Tryz.prog 280:=fun _ _=>by kernel_rfl
theorem Qee:ZV Tryz.prog 301 (.int .i64 0):=fun _=>by kernel_rfl
theorem Wb:Vn Tryz.prog 301:=fun _=>⟨by kernel_rfl,by kernel_rfl⟩
theorem Qb5:En Tryz.prog 279:=fun _ _=>by kernel_rfl
theorem Qty:Vn Tryz.prog 371:=fun _=>⟨by kernel_rfl,by kernel_rfl⟩
theorem Qfr:En Tryz.prog 348:=fun _ _=>by kernel_rfl
theorem Qqy:En Tryz.prog 349:=fun _ _=>by kernel_rfl
theorem Qkk:En Tryz.prog 293:=fun _ _=>by kernel_rfl
theorem Qfj:En Tryz.prog 209:=fun _ _=>by kernel_rfl
theorem Qb3:En Tryz.prog 178:=fun _ _=>by kernel_rfl
theorem Bs:Vn Tryz.prog 63:=fun _=>⟨by kernel_rfl,by kernel_rfl⟩
theorem Vq:Kx Tryz.prog 65 2:=fun _=>⟨by kernel_rfl,by kernel_rfl⟩
theorem Ns:BS Tryz.prog 67 (fun i=>[(0,1),(1,1),(2,2)][i]?) [.int .i64 0,.slice none 0 0,.int .u64 0,.int .u64 0]:=Hg Tryz.underlying67 Eh ⟨rfl,(Xm).siz,rfl,(Bs).siz,rfl,(Vq).siz,trivial⟩
theorem Vf:Kx Tryz.prog 67 4:=fun _=>⟨by kernel_rfl,by kernel_rfl⟩
theorem Qk9:En Tryz.prog 204:=fun _ _=>by kernel_rfl
theorem Qqd:En Tryz.prog 179:=fun _ _=>by kernel_rfl
theorem Qkh:En Tryz.prog 278:=fun _ _=>by kernel_rfl
theorem Qhh:Vn Tryz.prog 362:=fun _=>⟨by kernel_rfl,by kernel_rfl⟩
theorem Qb6:En Tryz.prog 281:=fun _ _=>by kernel_rfl
theorem Ek:BS Tryz.prog 193 (fun i=>[(0,1),(1,1)][i]?) [.int .i64 0,.int .i64 0]:=Hg Tryz.underlying193 Qec ⟨rfl,(Xm).siz,rfl,(Xm).siz,trivial⟩
theorem Qeb:ZV Tryz.prog 120 (.agg [.int .i64 0,.int .i64 0,.int .u8 0,.int .u8 0,.int .u8 0,.int .u8 0,.int .u8 0,.int .u8 0,.int .u8 0,.int .u8 0,.int .u8 0,.int .u8 0,.int .u8 0,.int .u8 0,.int .u8 0,.int .u8 0,.int .u8 0,.int .u8 0].toArray):=fun _=>by kernel_rfl
theorem Qy:Kx Tryz.prog 36 16:=fun _=>⟨by kernel_rfl,by kernel_rfl⟩
theorem Qop:BS Tryz.prog 120 (fun i=>[(0,1),(1,1),(2,16)][i]?) [.int .i64 0,.int .i64 0,.int .u8 0,.int .u8 0,.int .u8 0,.int .u8 0,.int .u8 0,.int .u8 0,.int .u8 0,.int .u8 0,.int .u8 0,.int .u8 0,.int .u8 0,.int .u8 0,.int .u8 0,.int .u8 0,.int .u8 0,.int .u8 0]:=Hg Tryz.underlying120 Qeb ⟨rfl,(Xm).siz,rfl,(Xm).siz,rfl,(Qy).siz,trivial⟩
theorem Ly:Kx Tryz.prog 120 18:=fun _=>⟨by kernel_rfl,by kernel_rfl⟩
theorem Qgi:FA Tryz.prog 120 0 0:=fun _ _ _=>by kernel_rfl
theorem Jq:ZV Tryz.prog 36 (.agg [.int .u8 0,.int .u8 0,.int .u8 0,.int .u8 0,.int .u8 0,.int .u8 0,.int .u8 0,.int .u8 0,.int .u8 0,.int .u8 0,.int .u8 0,.int .u8 0,.int .u8 0,.int .u8 0,.int .u8 0,.int .u8 0].toArray):=fun _=>by kernel_rfl
theorem Qpo:CV Tryz.prog 301 22 .u64:=fun _ _ _=>by kernel_rfl
theorem Wn:En Tryz.prog 52:=fun _ _=>by kernel_rfl
theorem Qfi:En Tryz.prog 207:=fun _ _=>by kernel_rfl
theorem Qfh:En Tryz.prog 206:=fun _ _=>by kernel_rfl
theorem Qki:En Tryz.prog 289:=fun _ _=>by kernel_rfl
theorem Qka:En Tryz.prog 205:=fun _ _=>by kernel_rfl
theorem Qcd:FA Tryz.prog 120 2 2:=fun _ _ _=>by kernel_rfl
theorem Uh:FA Tryz.prog 67 1 1:=fun _ _ _=>by kernel_rfl
theorem Qox:Hf Tryz.prog 63 1 120 18 [.int .i64 0,.int .i64 0,.int .u8 0,.int .u8 0,.int .u8 0,.int .u8 0,.int .u8 0,.int .u8 0,.int .u8 0,.int .u8 0,.int .u8 0,.int .u8 0,.int .u8 0,.int .u8 0,.int .u8 0,.int .u8 0,.int .u8 0,.int .u8 0]:=Gp Tryz.underlying63 (Ly).siz Qeb rfl rfl (by kernel_rfl)
theorem Qj1:Pm Tryz.prog 63 120 18 32:=Sa Tryz.underlying63 rfl (by kernel_rfl)
theorem Qqn:En Tryz.prog 277:=fun _ _=>by kernel_rfl
theorem Hh:BZ Tryz.prog 36 (kv k0):=fun _=>by kernel_rfl
theorem Wq:FA Tryz.prog 53 0 0:=fun _ _ _=>by kernel_rfl
theorem Wh:Vn Tryz.prog 50:=fun _=>⟨by kernel_rfl,by kernel_rfl⟩
theorem Gb:FA Tryz.prog 53 1 1:=fun _ _ _=>by kernel_rfl
theorem Yk:FA Tryz.prog 53 2 2:=fun _ _ _=>by kernel_rfl
theorem Yi:Vn Tryz.prog 51:=fun _=>⟨by kernel_rfl,by kernel_rfl⟩
theorem Gc:FA Tryz.prog 53 3 3:=fun _ _ _=>by kernel_rfl
theorem Qgf:Yt Tryz.prog 2 36 [.i .u8,.i .u8,.i .u8,.i .u8,.i .u8,.i .u8,.i .u8,.i .u8,.i .u8,.i .u8,.i .u8,.i .u8,.i .u8,.i .u8,.i .u8,.i .u8]:=Qs1 (ks:=[.i .u8]) Tryz.underlying36 (Qss (by kernel_rfl)).choose_spec (by kernel_rfl) Qy Qlc
theorem Gx:Ti Tryz.prog 36 [.i .u8,.i .u8,.i .u8,.i .u8,.i .u8,.i .u8,.i .u8,.i .u8,.i .u8,.i .u8,.i .u8,.i .u8,.i .u8,.i .u8,.i .u8,.i .u8]:=⟨by kernel_rfl,Qy,2,by decide,Qgf⟩
theorem Wl:Kx Tryz.prog 195 18:=fun _=>⟨by kernel_rfl,by kernel_rfl⟩
theorem Sv:FA Tryz.prog 195 0 0:=fun _ _ _=>by kernel_rfl
theorem Qqe:En Tryz.prog 208:=fun _ _=>by kernel_rfl
theorem Qk7:En Tryz.prog 202:=fun _ _=>by kernel_rfl
theorem Qk3:En Tryz.prog 113:=fun _ _=>by kernel_rfl
theorem Ou:ZV Tryz.prog 195 (.agg [.int .i64 0,.int .i64 0,.int .u8 0,.int .u8 0,.int .u8 0,.int .u8 0,.int .u8 0,.int .u8 0,.int .u8 0,.int .u8 0,.int .u8 0,.int .u8 0,.int .u8 0,.int .u8 0,.int .u8 0,.int .u8 0,.int .u8 0,.int .u8 0].toArray):=fun _=>by kernel_rfl
theorem Qgj:FA Tryz.prog 120 1 1:=fun _ _ _=>by kernel_rfl
theorem Qqo:En Tryz.prog 294:=fun _ _=>by kernel_rfl
theorem Qqg:En Tryz.prog 210:=fun _ _=>by kernel_rfl
theorem Qlk:FA Tryz.prog 195 1 2:=fun _ _ _=>by kernel_rfl
theorem Qb4:En Tryz.prog 211:=fun _ _=>by kernel_rfl
theorem Gz:FA Tryz.prog 53 4 19:=fun _ _ _=>by kernel_rfl
theorem Qqq:En Tryz.prog 296:=fun _ _=>by kernel_rfl
theorem Qj8:Hf Tryz.prog 252 1 193 2 [.int .i64 0,.int .i64 0]:=Gp Tryz.underlying252 (Pc).siz Qec rfl rfl (by kernel_rfl)
theorem Bp:Oy Tryz.prog 376 301 4:=⟨Tryz.underlying376,Tryz.underlying301,fun _=>by kernel_rfl⟩
theorem Qx9:ZV Tryz.prog 252 (.slice none 0 0):=fun _=>by kernel_rfl
theorem Qcy:Vn Tryz.prog 252:=fun _=>⟨by kernel_rfl,by kernel_rfl⟩
theorem Qoe:Pm Tryz.prog 252 193 2 16:=Sa Tryz.underlying252 rfl (by kernel_rfl)
theorem Qfq:En Tryz.prog 297:=fun _ _=>by kernel_rfl
theorem Qqr:En Tryz.prog 298:=fun _ _=>by kernel_rfl
theorem Gl:ZV Tryz.prog 53 (.agg [.slice none 0 0,.int .u64 0,.slice none 0 0,.int .u8 0,.int .u8 0,.int .u8 0,.int .u8 0,.int .u8 0,.int .u8 0,.int .u8 0,.int .u8 0,.int .u8 0,.int .u8 0,.int .u8 0,.int .u8 0,.int .u8 0,.int .u8 0,.int .u8 0,.int .u8 0,.int .u8 0,.int .u8 0,.int .u8 0,.int .u8 0,.int .u8 0,.int .u8 0,.int .u8 0,.int .u8 0,.int .u8 0,.int .u8 0,.int .u8 0,.int .u8 0,.int .u8 0,.int .u8 0,.int .u8 0,.int .u8 0].toArray):=fun _=>by kernel_rfl
theorem Ae:En Tryz.prog 116:=fun _ _=>by kernel_rfl
theorem Hs:BS Tryz.prog 53 (fun i=>[(0,1),(1,1),(2,1),(3,16),(19,16)][i]?) [.slice none 0 0,.int .u64 0,.slice none 0 0,.int .u8 0,.int .u8 0,.int .u8 0,.int .u8 0,.int .u8 0,.int .u8 0,.int .u8 0,.int .u8 0,.int .u8 0,.int .u8 0,.int .u8 0,.int .u8 0,.int .u8 0,.int .u8 0,.int .u8 0,.int .u8 0,.int .u8 0,.int .u8 0,.int .u8 0,.int .u8 0,.int .u8 0,.int .u8 0,.int .u8 0,.int .u8 0,.int .u8 0,.int .u8 0,.int .u8 0,.int .u8 0,.int .u8 0,.int .u8 0,.int .u8 0,.int .u8 0]:=Hg Tryz.underlying53 Gl ⟨rfl,(Wh).siz,rfl,(Zh).siz,rfl,(Yi).siz,rfl,(Qy).siz,rfl,(Qy).siz,trivial⟩
theorem Jw:Kx Tryz.prog 53 35:=fun _=>⟨by kernel_rfl,by kernel_rfl⟩
theorem Mm:En Tryz.prog 123:=fun _ _=>by kernel_rfl
theorem Qj7:BS Tryz.prog 195 (fun i=>[(0,2),(2,16)][i]?) [.int .i64 0,.int .i64 0,.int .u8 0,.int .u8 0,.int .u8 0,.int .u8 0,.int .u8 0,.int .u8 0,.int .u8 0,.int .u8 0,.int .u8 0,.int .u8 0,.int .u8 0,.int .u8 0,.int .u8 0,.int .u8 0,.int .u8 0,.int .u8 0]:=Hg Tryz.underlying195 Ou ⟨rfl,(Pc).siz,rfl,(Qy).siz,trivial⟩
theorem Qj9:Hf Tryz.prog 50 1 195 18 [.int .i64 0,.int .i64 0,.int .u8 0,.int .u8 0,.int .u8 0,.int .u8 0,.int .u8 0,.int .u8 0,.int .u8 0,.int .u8 0,.int .u8 0,.int .u8 0,.int .u8 0,.int .u8 0,.int .u8 0,.int .u8 0,.int .u8 0,.int .u8 0]:=Gp Tryz.underlying50 (Wl).siz Ou rfl rfl (by kernel_rfl)
theorem Qj0:Pm Tryz.prog 50 195 18 32:=Sa Tryz.underlying50 rfl (by kernel_rfl)
theorem Qjo {p0 r}(hm:Ma p0=some r){w:World}:
 Calls Tryz.prog 203 [.agg (Xn.cs p0).toArray].toArray w fun e w'=>∃ v,e=.returned v∧(v=.tuple [.agg (Xv.cs r.1).toArray,.bool r.2].toArray∧Gr w w'):=by
 unfold Ma at hm
 refine Xu 51 Tryz.func203 rfl rfl rfl<|qs 3 rfl<|qe rfl (Xp (cs:=Xn.cs p0) rfl rfl) ?_
 rintro _ w1 ⟨b1,rfl,y,f,G1⟩
 have z1:=G1.size
 have E:=f.lt
 refine qe rfl (Qz (cs:=Xv.cs (Xv.mk 0#8 0 0)) Nl rfl) ?_
 rintro _ w2 ⟨b2,rfl,z,g,G2⟩
 have z3:=G2.size
 have F:=g.lt
 refine qm rfl<|Qa<|Qj ?_
 have X5:=(((Gr.refl w).trans G1).trans G2)
 refine qj (β:=Bool) (rg 5 27) (fun a1=>[(31,.bool a1)]) (fun a1 wr=>(Si p0 a1=some r)∧Kz [] w2 wr) ?_ ?_
 · refine qg 27 rfl<|qv rfl (Qg Hj rfl) ?_
   have d:=(f.gr G2)
   refine qv rfl (Ql (v:=bv p0.Kind) Zj rfl d rfl)<|qv rfl (Ee (p:=p0.Kind) (q:=1#8) rfl rfl)<|Zm hm rfl (Qw rfl) (fun c3 hm=>?_) (fun c3 hm=>?_)
   · refine qn 7 rfl ?_
     refine qn 7 rfl ?_
     refine qn 7 rfl ?_
     refine qn 2 rfl<|Qi ?_
     exact⟨rfl,true,Qh,hm,Xi⟩
   refine qv rfl (Qg Hj rfl)<|qv rfl (Ql (v:=bv p0.Kind) Zj rfl d rfl)<|qv rfl (Qnw (p:=p0.Kind) (q:=3#8) rfl rfl)<|qm rfl<|Zm hm rfl (Qw rfl) (fun c4 hm=>?_) (fun c4 hm=>?_)
   · refine qn 7 rfl ?_
     refine qn 7 rfl ?_
     refine qn 4 rfl<|Qi ?_
     exact⟨rfl,true,Qh,hm,Xi⟩
   refine qv rfl (Qg Ga rfl)<|qv rfl (Ql (v:=.int .i64 p0.Depth) Xm rfl d rfl)<|qv rfl (Jb (a:=p0.Depth) (b:=0) rfl rfl)<|qm rfl<|Zm hm rfl (Qw rfl) (fun c5 hm=>?_) (fun c5 hm=>?_)
   · refine qn 7 rfl ?_
     refine qn 6 rfl<|Qi ?_
     exact⟨rfl,true,Qh,hm,Xi⟩
   refine qv rfl (Qg Ga rfl)<|qv rfl (Ql (v:=.int .i64 p0.Depth) Xm rfl d rfl)<|qv rfl (Ve (a:=p0.Depth) (b:=6) rfl rfl)<|qm rfl<|Zm hm rfl (Qw rfl) (fun c6 hm=>?_) (fun c6 hm=>?_)
   · refine qn 7 rfl ?_
     refine qm rfl<|Qi ?_
     exact⟨rfl,true,Qh,hm,Xi⟩
   refine qv rfl (Qu Jr rfl d rfl)<|qv rfl (Qg Hj rfl)<|qv rfl (Ql (v:=bv p0.Kind) Zj rfl d rfl)<|qv rfl (Qg Ga rfl)<|qv rfl (Ql (v:=.int .i64 p0.Depth) Xm rfl d rfl)<|qv rfl (Zk (cs:=Xn.cs (Xn.mk p0.Kind p0.Depth 0 (Vi.mk 0#64 0#64 0#64))) Qei rfl rfl)<|qv rfl (Gj (cf:=Xn.cs) (a:=p0) (b:=(Xn.mk p0.Kind p0.Depth 0 (Vi.mk 0#64 0#64 0#64))) Qs5 rfl rfl rfl rfl (fun h=>Xn.cs_inj h)) ?_
   refine qm rfl<|Qi ?_
   exact⟨rfl,(decide (p0≠(Xn.mk p0.Kind p0.Depth 0 (Vi.mk 0#64 0#64 0#64)))),Qh,hm,Xi⟩
 clear hm;rintro a1 w3 ⟨hm,K3⟩
 have z6:=K3.size
 unfold Si at hm
 refine Zw hm rfl (fun c1 hm=>?_) (fun c1 hm=>?_)
 · refine qs 3 rfl<|qv rfl (Zk (cs:=Xv.cs (Xv.mk 0#8 0 0)) Qa3 rfl rfl) ?_
   have B7:=(g.kz K3)
   refine qe rfl (Qr Kf rfl rfl rfl B7 rfl rfl) ?_
   rintro _ w4 ⟨m,M4⟩
   have z8:=M4.size
   refine qm rfl<|qb ?_
   have X9:=((X5.kz K3).md M4)
   cases hm
   exact⟨_,_,rfl,Xy rfl (Zf Kf rfl m rfl) (Qn rfl),rfl,X9⟩
 refine qu<|qs 7 rfl<|qv rfl (Qg Hj rfl) ?_
 have j:=((f.gr G2).kz K3)
 refine qv rfl (Ql (v:=bv p0.Kind) Zj rfl j rfl)<|qv rfl (Qg Ga rfl)<|qv rfl (Ql (v:=.int .i64 p0.Depth) Xm rfl j rfl)<|qv rfl (Zk (cs:=Xv.cs (Xv.mk p0.Kind p0.Depth 1)) Qa3 rfl rfl)<|qe rfl (Qz (cs:=Xv.cs (Xv.mk 0#8 0 0)) Nl rfl) ?_
 rintro _ w5 ⟨b5,rfl,A,l,G5⟩
 have G:=G5.size
 have B:=l.lt
 refine qe rfl (Qr Kf rfl rfl rfl l rfl rfl) ?_
 rintro _ w6 ⟨n,M6⟩
 have H:=M6.size
 refine Qa<|Qj<|Xz ?_
 have o:=(((X5.kz K3).trans G5).md M6)
 refine Kb (α:=Nat × Int) (rg 38 12) (fun⟨n2,a3⟩=>[]) (fun⟨n2,a3⟩ wr=>(Xq (Rm p0) n2 a3=some r)∧Bx wr b5 277 (Xv.cs (Xv.mk p0.Kind p0.Depth a3))∧Kz [(1,b5)] w6 wr) (fun⟨n2,a3⟩=>n2) ⟨Ze,1⟩ ?_ ?_ ?_
 · exact Qh
 · exact⟨hm,n,Kz.refl _ _⟩
 clear hm;rintro⟨n2,a3⟩ w7 ⟨hm,c,K7⟩
 have I:=K7.size
 have C:=c.lt
 have hb:=Kd hm;clear hm;obtain⟨n2,rfl,hm⟩:=hb
 generalize i:Xq (Rm p0) n2=D at hm
 unfold Rm at hm
 try dsimp only at hm
 refine Qj<|qs 8 rfl<|qv rfl (Qg Ig rfl)<|qv rfl (Ql (v:=.int .i64 a3) Xm rfl c rfl)<|qv rfl (Qg Ig rfl)<|qv rfl (Ql (v:=.int .i64 a3) Xm rfl c rfl) ?_
 refine qv rfl (Wj (k:=.i64) (a:=a3) (b:=a3) rfl rfl)<|qv rfl (Qg Qll rfl)<|qv rfl (Ql (v:=.int .i64 p0.Depth) Xm rfl c rfl)<|qv rfl (Jb (a:=Qp (a3*a3)) (b:=p0.Depth) rfl rfl)<|Qa<|Zv hm rfl (fun c2 hm=>?_) (fun c2 hm=>?_)
 · refine qu<|Xz<|qg 5 rfl<|qv rfl (Qg Ig rfl)<|qv rfl (Ql (v:=.int .i64 a3) Xm rfl c rfl)<|qv rfl (Zy (k:=.i64) (a:=a3) (b:=1) rfl rfl) ?_
   refine qv rfl (Qg Ig rfl)<|qe rfl (Js (cs':=Xv.cs (Xv.mk p0.Kind p0.Depth (Qp (a3+1)))) (Xm).siz rfl rfl rfl c rfl rfl) ?_
   rintro _ w8 ⟨s,M8⟩
   have J:=M8.size
   refine Qi<|Zo ?_
   have K_18:Kz [(1,b5)] w6 w8:=(K7.md M8)
   subst i
   exact⟨rfl,⟨n2,Qp (a3+1)⟩,Qh,⟨hm,s,K_18⟩,Nat.lt_succ_self _⟩
 refine Jl<|Zd<|Zd<|Jk<|Zg<|qs 3 rfl ?_
 refine qv rfl (Qu Kf rfl c rfl) ?_
 have t:=((((g.kz K3).gr G5).md M6).kz K7)
 refine qe rfl (Qr Kf rfl rfl rfl t rfl rfl) ?_
 rintro _ w9 ⟨u,M9⟩
 have K:=M9.size
 refine qm rfl<|Qa<|Qs ?_
 have x:=((o.kz K7).md M9)
 cases hm
 exact⟨_,_,rfl,Xy rfl (Zf Kf rfl u rfl) (Qn rfl),rfl,x⟩
theorem Et {p0 r}(hm:Sc p0=some r){w:World}:
 Calls Tryz.prog 116 [.agg (Xn.cs p0).toArray].toArray w fun e w'=>∃ v,e=.returned v∧(v=.int .i64 r∧Gr w w'):=by
 unfold Sc at hm
 refine Xu 12 Tryz.func116 rfl rfl rfl<|qs 2 rfl<|qe rfl (Xp (cs:=Xn.cs p0) rfl rfl) ?_
 rintro _ w1 ⟨b1,rfl,d,a,G1⟩
 have z1:=G1.size
 have g:=a.lt
 refine qm rfl<|Qa<|Qj<|qs 8 rfl<|qv rfl (Qu Jr rfl a rfl) ?_
 obtain⟨x1,c,hm⟩:=Qd hm
 refine qe rfl (eC Qk8 rfl (Qjo c)) ?_
 rintro _ w2 ⟨rfl,G2⟩
 have z3:=G2.size
 refine qn 3 rfl<|qe rfl (Qz (cs:=Xv.cs (Xv.mk 0#8 0 0)) Nl rfl) ?_
 rintro _ w3 ⟨b3,rfl,f,b,G3⟩
 have z4:=G3.size
 have h:=b.lt
 refine qe rfl (Qr Kf rfl rfl rfl b rfl rfl) ?_
 rintro _ w4 ⟨i,M4⟩
 have z6:=M4.size
 refine qm rfl<|qd 2 rfl<|qm rfl<|qv rfl (Jj rfl)<|Qa ?_
 refine Zw hm rfl (fun c1 hm=>?_) (fun c1 hm=>?_)
 · refine qs 1 rfl<|qm rfl<|qb ?_
   have X7:=(((((Gr.refl w).trans G1).trans G2).trans G3).md M4)
   cases hm
   exact⟨_,_,rfl,Xj rfl (Qn rfl),rfl,X7⟩
 refine qu<|qs 1 rfl<|qm rfl<|Qa<|Qs ?_
 have X8:=(((((Gr.refl w).trans G1).trans G2).trans G3).md M4)
 cases hm
 exact⟨_,_,rfl,Xj rfl (Qn rfl),rfl,X8⟩
theorem Qf6 {p0 r}(hm:Rq p0=some r){w:World}:
 Calls Tryz.prog 288 [.agg (Xv.cs p0).toArray].toArray w fun e w'=>∃ v,e=.returned v∧(v=.int .i64 r∧Gr w w'):=by
 unfold Rq at hm
 refine Xu 6 Tryz.func288 rfl rfl rfl<|qs 2 rfl<|qe rfl (Xp (cs:=Xv.cs p0) rfl rfl) ?_
 rintro _ w1 ⟨b1,rfl,d,c,G1⟩
 have z1:=G1.size
 have f:=c.lt
 refine qm rfl<|qd 4 rfl<|qv rfl (Qg Qll rfl)<|qv rfl (Ql (v:=.int .i64 p0.depth) Xm rfl c rfl) ?_
 obtain⟨nn1,hnn1,hm⟩:=Qd hm
 refine qv rfl (Ef (a:=1) (b:=p0.depth) rfl rfl hnn1)<|qm rfl<|Qa<|Qs ?_
 have X3:=((Gr.refl w).trans G1)
 cases hm
 exact⟨_,_,rfl,Xj rfl (Qn rfl),rfl,X3⟩
theorem Qjq {p0 p1 r}(hm:Qas p0 p1=some r){w:World}:
 Calls Tryz.prog 290 [.agg (Xv.cs p0).toArray,.int .i64 p1].toArray w fun e w'=>∃ v,e=.returned v∧(v=.bool r∧Gr w w'):=by
 unfold Qas at hm
 refine Xu 14 Tryz.func290 rfl rfl rfl<|qs 2 rfl<|qe rfl (Xp (cs:=Xv.cs p0) rfl rfl) ?_
 rintro _ w1 ⟨b1,rfl,f,c,G1⟩
 have z1:=G1.size
 have g:=c.lt
 refine qm rfl<|qd 10 rfl<|qm rfl<|qv rfl (Vd (a:=p1) (b:=1) rfl rfl)<|Kr hm rfl (Qw rfl) (fun c1 hm=>?_) (fun c1 hm=>?_)
 · refine qn 7 rfl ?_
   refine Qa<|Qs ?_
   have X5:=((Gr.refl w).trans G1)
   cases hm
   exact⟨_,_,rfl,Xj rfl (Qn rfl),rfl,X5⟩
 refine qm rfl<|qv rfl (Qu Kf rfl c rfl) ?_
 obtain⟨x1,d,hm⟩:=Qd hm
 refine qe rfl (eC Qfn rfl (Qf6 d)) ?_
 rintro _ w2 ⟨rfl,G2⟩
 have z3:=G2.size
 refine qv rfl (Wj (k:=.i64) (a:=2) (b:=x1) rfl rfl)<|qv rfl (Jb (a:=p1) (b:=Qp (2*x1)) rfl rfl)<|qn 2 rfl<|Qa<|Qs ?_
 have X4:=(((Gr.refl w).trans G1).trans G2)
 cases hm
 exact⟨_,_,rfl,Xj rfl (Qn rfl),rfl,X4⟩
theorem Rk {p0 r}(hm:Tn p0=some r){w:World}:
 Calls Tryz.prog 347 [.int .i64 p0].toArray w fun e w'=>∃ v,e=.returned v∧(v=.int .i64 r∧Gr w w'):=by
 unfold Tn at hm
 refine Xu 7 Tryz.func347 rfl rfl rfl<|qs 1 rfl<|qm rfl<|qd 5 rfl ?_
 refine qm rfl<|qv rfl (Yr Qpn rfl)<|qe rfl (eC Qqz rfl (Qtg (un (wd p0)) (Qdy _) (by have:=Qno (wd p0);omega) _)) ?_
 rintro _ w1 ⟨rfl,G1⟩
 have z1:=G1.size
 refine qv rfl (Ys (k:=.i64) (a:=lg (un (wd p0))) (b:=1) rfl rfl)<|qm rfl<|Qa<|Qs ?_
 have X2:=((Gr.refl w).trans G1)
 cases hm
 exact⟨_,_,rfl,Xj rfl (Qn rfl),rfl,X2⟩
theorem Qez {p0 p1 r}(hm:Ez p0 p1=some r){w:World}:
 Calls Tryz.prog 291 [.int .i64 p0,.int .i64 p1].toArray w fun e w'=>∃ v,e=.returned v∧(v=.bool r∧Gr w w'):=by
 unfold Ez at hm
 refine Xu 27 Tryz.func291 rfl rfl rfl<|qs 1 rfl<|qm rfl<|Qa<|Qj<|qj (β:=Bool) (rg 5 13) (fun a1=>[(17,.bool a1)]) (fun a1 wr=>(Aa p0 p1 a1=some r)∧Kz [] w wr) ?_ ?_
 · refine qg 13 rfl<|qm rfl<|qv rfl (Jb (a:=p0) (b:=1) rfl rfl)<|Zm hm rfl (Qw rfl) (fun c2 hm=>?_) (fun c2 hm=>?_)
   · refine qn 7 rfl ?_
     refine qn 3 rfl<|Qi ?_
     exact⟨rfl,true,Qh,hm,Xi⟩
   refine qm rfl<|qv rfl (Jb (a:=p1) (b:=1) rfl rfl)<|qm rfl<|Zm hm rfl (Qw rfl) (fun c3 hm=>?_) (fun c3 hm=>?_)
   · refine qn 6 rfl<|Qi ?_
     exact⟨rfl,true,Qh,hm,Xi⟩
   refine qm rfl ?_
   obtain⟨x5,c,hm⟩:=Qd hm
   refine qe rfl (eC Rs rfl (Rk c)) ?_
   rintro _ w4 ⟨rfl,G4⟩
   have z8:=G4.size
   refine qm rfl ?_
   obtain⟨x6,d,hm⟩:=Qd hm
   refine qe rfl (eC Rs rfl (Rk d)) ?_
   rintro _ w5 ⟨rfl,G5⟩
   have z9:=G5.size
   refine qv rfl (Jb (a:=x5) (b:=x6) rfl rfl)<|qm rfl<|Qi ?_
   exact⟨rfl,(decide (x5<x6)),Qh,hm,((Xi.gr G4).gr G5)⟩
 clear hm;rintro a1 w1 ⟨hm,K1⟩
 have z1:=K1.size
 unfold Aa at hm
 refine Zw hm rfl (fun c1 hm=>?_) (fun c1 hm=>?_)
 · refine qs 1 rfl<|qm rfl<|qb ?_
   have X2:=((Gr.refl w).kz K1)
   cases hm
   exact⟨_,_,rfl,Xj rfl (Qn rfl),rfl,X2⟩
 refine qu<|qs 10 rfl<|qn 2 rfl ?_
 obtain⟨x2,f,hm⟩:=Qd hm
 refine qe rfl (eC Rs rfl (Rk f)) ?_
 rintro _ w2 ⟨rfl,G2⟩
 have z3:=G2.size
 refine qm rfl ?_
 obtain⟨x3,g,hm⟩:=Qd hm
 refine qe rfl (eC Rs rfl (Rk g)) ?_
 rintro _ w3 ⟨rfl,G3⟩
 have z4:=G3.size
 refine qv rfl (Ys (k:=.i64) (a:=x2) (b:=x3) rfl rfl) ?_
 obtain⟨nn4,hnn4,hm⟩:=Qd hm
 refine qv rfl (Qe4 (a:=p0) (b:=(Qp (x2-x3))) rfl rfl hnn4)<|qm rfl<|qv rfl (Kw (a:=Ls p0 nn4) (b:=p1) rfl rfl)<|qm rfl<|Qa<|Qs ?_
 have X5:=((((Gr.refl w).kz K1).trans G2).trans G3)
 cases hm
 exact⟨_,_,rfl,Xj rfl (Qn rfl),rfl,X5⟩
theorem Qf7 {p0 p1 r}(hm:Nv p0 p1=some r){w:World}:
 Calls Tryz.prog 292 [.agg (Xv.cs p0).toArray,.int .i64 p1].toArray w fun e w'=>∃ v,e=.returned v∧(v=.bool r∧Gr w w'):=by
 unfold Nv at hm
 refine Xu 11 Tryz.func292 rfl rfl rfl<|qs 2 rfl<|qe rfl (Xp (cs:=Xv.cs p0) rfl rfl) ?_
 rintro _ w1 ⟨b1,rfl,g,c,G1⟩
 have z1:=G1.size
 have h:=c.lt
 refine qm rfl<|Qa<|Qj<|dw [([])] [] (.leaf [(0,10),(2,10),(3,10),(1,0),(4,10),(5,10),(6,10)]) ?_
 intro w2 G2 i
 refine Xo<|dm 0 rfl rfl<|dh 0 rfl rfl (fun w hS=>Qg Ig rfl) ?_
 have B3:=(c.gr G2)
 refine dh 0 rfl rfl (fun w hS=>Ql (v:=.int .i64 p0.stride) Xm rfl (Bx.kp B3 hS) rfl) ?_
 obtain⟨x1,d,hm⟩:=Qd hm
 refine qz [] rfl (eC Rs rfl (Rk d)) ⟨fun _=>Qb,trivial⟩ ?_
 rintro _ w3 ⟨rfl,G3⟩
 have z4:=G3.size
 refine kG G3 ?_
 obtain⟨x2,f,hm⟩:=Qd hm
 have S5:=((Kp.refl ([]) w2).gr G3)
 refine qh 0 rfl rfl S5 (fun w hS=>Db (a:=x1) (b:=p0.stride) rfl rfl f)<|qh 0 rfl rfl S5 (fun w hS=>Kw (a:=x2) (b:=0) rfl rfl)<|dn 0 rfl rfl S5<|Qa<|Qs ?_
 have X6:=((((Gr.refl w).trans G1).trans G2).trans G3)
 cases hm
 exact⟨_,_,rfl,Xj rfl (Qn rfl),rfl,X6⟩
theorem Qf1 {p0 p1 r}(hm:Cy p0 p1=some r){w:World}:
 Calls Tryz.prog 280 [.int .i64 p0,.int .i64 p1].toArray w fun e w'=>∃ v,e=.returned v∧(∃ bc0 bc1,v=.func (.func 348) #[] [.pointer (some ⟨bc0,0,none⟩),.pointer (some ⟨bc1,0,none⟩)].toArray∧Bx w' bc0 301 ([.int .i64 r.1])∧(w.heap.size≤bc0)∧Bx w' bc1 301 ([.int .i64 r.2])∧(w.heap.size≤bc1)∧Gr w w'):=by
 unfold Cy at hm
 refine Xu 6 Tryz.func280 rfl rfl rfl<|qs 3 rfl<|qe rfl (Xp (cs:=[.int .i64 p0]) rfl rfl) ?_
 rintro _ w1 ⟨b1,rfl,c,a,G1⟩
 have z1:=G1.size
 have f:=a.lt
 refine qe rfl (Xp (cs:=[.int .i64 p1]) rfl rfl) ?_
 rintro _ w2 ⟨b2,rfl,d,b,G2⟩
 have z3:=G2.size
 have g:=b.lt
 refine qm rfl<|qd 2 rfl<|qv rfl (Da rfl rfl)<|qm rfl<|Qa ?_
 refine Qs ?_
 have B5:=(a.gr G2)
 have X6:=(((Gr.refl w).trans G1).trans G2)
 cases hm
 exact⟨_,_,rfl,Xj rfl (Qn rfl),b1,b2,rfl,B5,by omega,b,by omega,X6⟩
theorem Qap {p0 p1 r}(hm:Sh p0 p1=some r){w:World}:
 Calls Tryz.prog 279 [.int .i64 p0,.int .i64 p1].toArray w fun e w'=>∃ v,e=.returned v∧(v=.int .i64 r∧Gr w w'):=by
 unfold Sh at hm
 refine Xu 13 Tryz.func279 rfl rfl rfl<|qs 1 rfl<|qm rfl<|qd 9 rfl ?_
 refine qn 2 rfl ?_
 obtain⟨x1,c,hm⟩:=Qd hm
 refine qe rfl (eC Rs rfl (Rk c)) ?_
 rintro _ w1 ⟨rfl,G1⟩
 have z1:=G1.size
 refine qm rfl ?_
 obtain⟨x2,d,hm⟩:=Qd hm
 refine qe rfl (eC Rs rfl (Rk d)) ?_
 rintro _ w2 ⟨rfl,G2⟩
 have z2:=G2.size
 refine qv rfl (Ys (k:=.i64) (a:=x1) (b:=x2) rfl rfl)<|qv rfl (Ys (k:=.i64) (a:=Qp (x1-x2)) (b:=1) rfl rfl) ?_
 obtain⟨nn3,hnn3,hm⟩:=Qd hm
 refine qv rfl (Qe4 (a:=p1) (b:=(Qp ((Qp (x1-x2))-1))) rfl rfl hnn3)<|qm rfl<|Qa<|Qs ?_
 have X3:=(((Gr.refl w).trans G1).trans G2)
 cases hm
 exact⟨_,_,rfl,Xj rfl (Qn rfl),rfl,X3⟩
theorem Qf0 (p1:Int)(p2:Int)(bp1:Nat)(bp2:Nat)(xs:List Int)(hm:Cz p1 p2=some xs)(w0:World)(hbp1:Bx w0 bp1 301 ([.int .i64 p1]))(hbp2:Bx w0 bp2 301 ([.int .i64 p2])):
 IT Tryz.prog 348 [.pointer (some ⟨bp1,0,none⟩),.pointer (some ⟨bp2,0,none⟩)] (xs.map (fun(x:Int)=>([.int .i64 x]:List Value))) ([bp1]++[bp2]) w0:=by
 intro l J Jx w fp hG hJ hJx hcap h0 hY
 have c1:=Bx.gr hbp1 hG
 have A:=c1.lt
 have o:bp1∉fp:=hcap _ (by simp)
 have c4:=Bx.gr hbp2 hG
 have B:=c4.lt
 have p:bp2∉fp:=hcap _ (by simp)
 have hd:=Qfe xs
 unfold Cz at hm
 refine Xu 16 Tryz.func348 rfl rfl rfl<|qs 2 rfl<|qv rfl (Ql (v:=.int .i64 p1) Wb rfl c1 rfl)<|qm rfl<|Qa<|Xz ?_
 refine Kb (α:=Nat × Int × Nat × List Nat × List Int) ([4]++rg 6 10) (fun⟨n1,a2,kk,fpl,rl⟩=>[(4,.int .i64 a2)]) (fun⟨n1,a2,kk,fpl,rl⟩ wr=>(Xq (Rl p2) n1 a2=some rl)∧Dr xs kk rl∧J kk fpl wr∧(∀ c∈fpl,c∈fp∨w.heap.size≤c)∧Kp fp w wr∧Bx wr bp1 301 ([.int .i64 p1])∧Bx wr bp2 301 ([.int .i64 p2])∧bp1∉fpl∧bp2∉fpl∧True) (fun⟨n1,a2,kk,fpl,rl⟩=>n1) ⟨Ze,p1,0,fp,xs⟩ ?_ ?_ ?_
 · exact Qh
 · exact⟨hm,hd,h0,(fun c hc=>Or.inl hc),(Kp.refl fp w),c1,c4,o,p,trivial⟩
 clear hm;rintro⟨n1,a2,j,fpl1,rl1⟩ w1 ⟨hm,dl1,JLw1,sl1,KLw1,f,d,g,h,-⟩
 have z7:=KLw1.size
 have C:=f.lt
 have D:=d.lt
 have hb:=Kd hm;clear hm;obtain⟨n1,rfl,hm⟩:=hb
 generalize k:Xq (Rl p2) n1=z at hm
 unfold Rl at hm
 try dsimp only at hm
 refine Qj<|qs 3 rfl<|qm rfl<|qv rfl (Ql (v:=.int .i64 p2) Wb rfl d rfl)<|qv rfl (Zp (a:=a2) (b:=p2) rfl rfl)<|Qa ?_
 refine Kg hm rfl (fun c1 hm=>?_) (fun c1 hm=>?_)
 · refine Jl<|Zd<|Zd<|Jk ?_
   have he:=Option.some.inj hm
   have hl:=Dr.last (c:=(fun(x:Int)=>([.int .i64 x]:List Value))) dl1 he.symm
   refine⟨_,_,rfl,Ph rfl,KLw1,.inl ⟨_,sl1,?_⟩⟩
   rw[←hl];exact JLw1
 refine qu<|Xz<|qs 4 rfl<|qm rfl<|qv rfl (Ql (v:=.int .i64 p2) Wb rfl d rfl) ?_
 obtain⟨x3,q,hm⟩:=Qd hm
 refine qe rfl (eC Qb5 rfl (Qap q)) ?_
 rintro _ w2 ⟨rfl,G2⟩
 have E:=G2.size
 refine qm rfl<|qd 4 rfl<|qn 2 rfl ?_
 have r:=(hJ.gr JLw1 G2)
 have KI13:Kp fp w w2:=(KLw1.gr G2)
 obtain⟨rr11,hm,he11⟩:=Ot hm
 have i:=Dr.at dl1 he11
 have hd11:=Dr.next dl1 he11
 have s:=(f.gr G2)
 have t:=(d.gr G2)
 refine qe rfl (Ud rfl rfl (hY _ _ _ _ (Gd i) r KI13 sl1)) ?_
 rintro _ w3 ⟨bb,rfl,KF11,e,hg11,hJb⟩
 have F:=KF11.size
 have sub11:∀ c∈e,c∈fp∨w.heap.size≤c:=Ni sl1 hg11 (by omega)
 have m:=Kt hg11 g (by omega)
 have n:=Kt hg11 h (by omega)
 cases bb
 · have Jy11:Jx (j+1) e w3:=hJb
   refine qv rfl (Jj rfl)<|Qa<|Td rfl<|Qs<|Je<|Zb<|Je ?_
   have KI19:Kp fp w w3:=(KI13.trans KF11 sl1)
   exact⟨_,_,rfl,Ph rfl,KI19,.inr ⟨_,_,sub11,(by rw[List.length_map];exact(List.getElem?_eq_some_iff.1 i).1),Jy11⟩⟩
 have Jy11:J (j+1) e w3:=hJb
 refine qv rfl (Jj rfl)<|Qa<|Gi rfl<|Vl<|Zo ?_
 have KI20:Kp fp w w3:=(KI13.trans KF11 sl1)
 have u:=(Bx.kp s KF11 g)
 have y:=(Bx.kp t KF11 h)
 subst k
 exact⟨rfl,⟨n1,x3,(j+1),e,rr11⟩,Qh,⟨hm,hd11,Jy11,sub11,KI20,u,y,m,n,trivial⟩,Nat.lt_succ_self _⟩
theorem Qpf {g h f bp0_0 bp0_1 r}(hm:Qam g h f=some r){w:World}(hbp0_0:Bx w bp0_0 301 ([.int .i64 g]))(hbp0_1:Bx w bp0_1 301 ([.int .i64 h])):
 Calls Tryz.prog 349 [.func (.func 348) [].toArray [.pointer (some ⟨bp0_0,0,none⟩),.pointer (some ⟨bp0_1,0,none⟩)].toArray,.func (.func 292) [.agg (Xv.cs f).toArray].toArray [].toArray].toArray w fun e w'=>∃ v,e=.returned v∧(v=.int .i64 r∧Gr w w'):=by
 have aa:=hbp0_0.lt
 have ab:=hbp0_1.lt
 unfold Qam at hm
 refine Xu 12 Tryz.func349 rfl rfl rfl<|qs 2 rfl<|qe rfl (Xp rfl rfl) ?_
 rintro _ w1 ⟨b1,rfl,Q,t,G1⟩
 have z3:=G1.size
 have ac:=t.lt
 refine qe rfl (Qz (cs:=[.int .i64 0]) Qee rfl) ?_
 rintro _ w2 ⟨b2,rfl,R,u,G2⟩
 have z5:=G2.size
 have ad:=u.lt
 refine Qa<|Qj<|qs 1 rfl<|qm rfl<|Qa<|Xz ?_
 have B7:=((hbp0_0.gr G1).gr G2)
 have B8:=((hbp0_1.gr G1).gr G2)
 obtain⟨l1,y,hm⟩:=Qd hm
 have X9:=(((Gr.refl w).trans G1).trans G2)
 have z:=(t.gr G2)
 refine Ch (gf:=348) rfl Qfr (Qf0 g h _ _ _ y _ B7 B8) (by intro x hx;obtain⟨a,_,rfl⟩:=List.mem_map.1 hx;rfl) rfl _ _ ([b2]) (Cf (α:=Int) (fun a3 rk=>Vw (Cx f) Ew (List.drop rk l1) a3=some r) (fun a3=>([b2])) (fun a3 W=>Bx W b2 301 ([.int .i64 a3])∧True) (by rintro a3 W ⟨F0,_⟩ b hb;have q0:=F0.lt;replace hb:b∈([b2]):=hb;simp only[List.mem_cons,List.mem_append,Jc,List.not_mem_nil,or_false,false_or,not_or,ne_eq,List.nil_append,List.cons_append,true_and,and_true,false_and,and_false,not_true_eq_false,not_false_eq_true,or_true,true_or] at hb;omega) (by rintro a3 W W' ⟨F0,_⟩ E hs;replace hs:∀ b∈([b2]),W'.heap[b]? = W.heap[b]? := hs;exact⟨(hs _ (by simp)).trans F0,trivial⟩)) (fun c=>(Qnj (c=.ret) (Cf (α:=Int) (fun a3 rk=>Qex a3=some r) (fun a3=>([b2])) (fun a3 W=>Bx W b2 301 ([.int .i64 a3])∧True) (by rintro a3 W ⟨F0,_⟩ b hb;have q0:=F0.lt;replace hb:b∈([b2]):=hb;simp only[List.mem_cons,List.mem_append,Jc,List.not_mem_nil,or_false,false_or,not_or,ne_eq,List.nil_append,List.cons_append,true_and,and_true,false_and,and_false,not_true_eq_false,not_false_eq_true,or_true,true_or] at hb;omega) (by rintro a3 W W' ⟨F0,_⟩ E hs;replace hs:∀ b∈([b2]),W'.heap[b]? = W.heap[b]? := hs;exact⟨(hs _ (by simp)).trans F0,trivial⟩)))) (by intro b hb;simp only[List.mem_cons,List.mem_append,Jc,List.not_mem_nil,or_false,false_or,not_or,ne_eq,List.nil_append,List.cons_append,true_and,and_true,false_and,and_false,not_true_eq_false,not_false_eq_true,or_true,true_or] at hb ⊢;omega) ⟨0,hm,rfl,u,trivial⟩ ?_ ?_ ?_
 · rintro l rk x fp w3 hl hx _ K3 hF hln Kv
   clear hm
   obtain⟨e4,hxe,rfl⟩:=map_some hx
   have A:Kz [(1,b2)] w2 w3:=Ll K3 (by intro k hk;simp only[Jo,and_true,List.mem_cons,List.mem_append,Jc,List.not_mem_nil,or_false,false_or,not_or,ne_eq,List.nil_append,List.cons_append,true_and,and_true,false_and,and_false,not_true_eq_false,not_false_eq_true,or_true,true_or] at hk ⊢;omega)
   have ae:=K3.size
   refine qg 1 rfl<|qm rfl<|Qi<|⟨rfl,(Gr.refl _),?_⟩
   rintro w4 M4 ⟨a3,hm,rfl,d,-⟩
   have af:=M4.size
   have S:=d.lt
   replace hm:=Il hm hxe
   generalize hnx1:Vw (Cx f) Ew (List.drop (rk+1) l1)=ag at hm
   unfold Cx at hm
   try dsimp only at hm
   refine Xz<|qs 3 rfl ?_
   have B:=((z.kz A).md M4)
   refine qv rfl (Ql Qty rfl B rfl)<|qm rfl ?_
   obtain⟨x5,C,hm⟩:=Qd hm
   refine qe rfl (Vk Qfp rfl rfl (Qf7 C)) ?_
   rintro _ w5 ⟨rfl,G5⟩
   have ah:=G5.size
   refine Qa<|Zw hm rfl (fun c1 hm=>?_) (fun c1 hm=>?_)
   · refine qs 2 rfl<|qm rfl ?_
     have D:=(d.gr G5)
     refine qe rfl (Js (cs':=[.int .i64 e4]) (Wb).siz rfl rfl rfl D rfl rfl) ?_
     rintro _ w6 ⟨F,M6⟩
     have ai:=M6.size
     refine Qa<|Qs<|Je ?_
     have K_18:Kz [(1,b2)] w4 w6:=((Kz.gr (Kz.refl _ _) G5).md M6)
     have Kq18:Kp ([b2]) w4 w6:=Ir K_18 (by intro k hk;simp only[Jo,and_true,List.mem_cons,List.mem_append,Jc,List.not_mem_nil,or_false,false_or,not_or,ne_eq,List.nil_append,List.cons_append,true_and,and_true,false_and,and_false,not_true_eq_false,not_false_eq_true,or_true,true_or] at hk ⊢;omega)
     exact⟨Kq18,([b2]),(by intro c hc;simp only[List.mem_cons,List.mem_append,Jc,List.not_mem_nil,or_false,false_or,not_or,ne_eq,List.nil_append,List.cons_append,true_and,and_true,false_and,and_false,not_true_eq_false,not_false_eq_true,or_true,true_or] at hc ⊢;omega),⟨rfl,e4,hm,rfl,F,trivial⟩⟩
   refine Vl<|Zo ?_
   have G:=(d.gr G5)
   have K_19:Kz [(1,b2)] w4 w5:=(Kz.gr (Kz.refl _ _) G5)
   have Kq19:Kp ([b2]) w4 w5:=Ir K_19 (by intro k hk;simp only[Jo,and_true,List.mem_cons,List.mem_append,Jc,List.not_mem_nil,or_false,false_or,not_or,ne_eq,List.nil_append,List.cons_append,true_and,and_true,false_and,and_false,not_true_eq_false,not_false_eq_true,or_true,true_or] at hk ⊢;omega)
   subst hnx1
   exact⟨Kq19,([b2]),(by intro c hc;simp only[List.mem_cons,List.mem_append,Jc,List.not_mem_nil,or_false,false_or,not_or,ne_eq,List.nil_append,List.cons_append,true_and,and_true,false_and,and_false,not_true_eq_false,not_false_eq_true,or_true,true_or] at hc ⊢;omega),⟨a3,hm,rfl,G,trivial⟩⟩
 · clear hm;rintro o fp w7 T m H ⟨a3,hm,rfl,i,-⟩ K7
   replace hm:=Io hm
   have I:Kz [(1,b2)] w2 w7:=Ll K7 (by intro k hk;simp only[Jo,and_true,List.mem_cons,List.mem_append,Jc,List.not_mem_nil,or_false,false_or,not_or,ne_eq,List.nil_append,List.cons_append,true_and,and_true,false_and,and_false,not_true_eq_false,not_false_eq_true,or_true,true_or] at hk ⊢;omega)
   have aj:=K7.size
   have U:=Df.lt (w:=w7) m
   simp only[List.mem_cons,List.mem_append,Jc,List.not_mem_nil,or_false,false_or,not_or,ne_eq,List.nil_append,List.cons_append,true_and,and_true,false_and,and_false,not_true_eq_false,not_false_eq_true,or_true,true_or,not_and] at H
   have V:=i.lt
   unfold Ew at hm
   try dsimp only at hm
   refine Zo<|Zg<|qs 1 rfl<|qe rfl (Js (cs':=[.int .i64 0]) (Wb).siz rfl rfl rfl i rfl rfl) ?_
   rintro _ w8 ⟨J,M8⟩
   have ak:=M8.size
   refine Qa<|Qs ?_
   have DL25:=(Df.md m M8)
   have p:=Md.put (w:=w8) o (.deferred none)
   have zL25:=p.size
   have K:=(J.md p)
   have L:Gr w (w8.putObj o (.deferred none)):=(((X9.kz I).md M8).md p)
   cases hm
   refine⟨_,_,⟨o,rfl,DL25,rfl⟩,Xj rfl (Qn6 Wb rfl K),?_⟩
   exact⟨rfl,L⟩
 clear hm;rintro q c rk fp w9 X n M hle ⟨rfl,a3,hm,rfl,j,-⟩ K9
 have N:Kz [(1,b2)] w2 w9:=Ll K9 (by intro k hk;simp only[Jo,and_true,List.mem_cons,List.mem_append,Jc,List.not_mem_nil,or_false,false_or,not_or,ne_eq,List.nil_append,List.cons_append,true_and,and_true,false_and,and_false,not_true_eq_false,not_false_eq_true,or_true,true_or] at hk ⊢;omega)
 have al:=K9.size
 have Y:=Df.lt (w:=w9) n
 simp only[List.mem_cons,List.mem_append,Jc,List.not_mem_nil,or_false,false_or,not_or,ne_eq,List.nil_append,List.cons_append,true_and,and_true,false_and,and_false,not_true_eq_false,not_false_eq_true,or_true,true_or,not_and] at M
 have Z:=j.lt
 unfold Qex at hm
 try dsimp only at hm
 refine Qs<|Je<|Zb ?_
 have DL31:=n
 have s:=Md.put (w:=w9) q (.deferred none)
 have zL31:=s.size
 have O:=(j.md s)
 have P:Gr w (w9.putObj q (.deferred none)):=((X9.kz N).md s)
 cases hm
 refine⟨_,_,⟨q,rfl,DL31,rfl⟩,Xj rfl (Qn6 Wb rfl O),?_⟩
 exact⟨rfl,P⟩
theorem Qjp {p0 p1 p2 r}(hm:Sj p0 p1 p2=some r){w:World}:
 Calls Tryz.prog 293 [.agg (Xv.cs p0).toArray,.int .i64 p1,.int .i64 p2].toArray w fun e w'=>∃ v,e=.returned v∧(v=.int .i64 r∧Gr w w'):=by
 unfold Sj at hm
 refine Xu 14 Tryz.func293 rfl rfl rfl<|qs 2 rfl<|qe rfl (Xp (cs:=Xv.cs p0) rfl rfl) ?_
 rintro _ w1 ⟨b1,rfl,m,f,G1⟩
 have z1:=G1.size
 have n:=f.lt
 refine qm rfl<|Qa<|Qj<|dw [([])] [] (.leaf [(0,10),(1,10),(2,10),(4,10),(5,10),(3,0),(6,0),(7,10)]) ?_
 intro w2 G2 o
 refine Xo<|dm 0 rfl rfl<|dm 0 rfl rfl ?_
 obtain⟨nn1,hnn1,hm⟩:=Qd hm
 refine dh 0 rfl rfl (fun w hS=>Qe4 (a:=p2) (b:=(un 1#64)) rfl rfl hnn1) ?_
 have B3:=(f.gr G2)
 refine dh 0 rfl rfl (fun w hS=>Qu Kf rfl (Bx.kp B3 hS) rfl)<|dh 0 rfl rfl (fun w hS=>Da rfl rfl) ?_
 obtain⟨x2,k,hm⟩:=Qd hm
 refine qz [] rfl (eC Qfm rfl (Qf1 k)) ⟨fun _=>Qb,trivial⟩ ?_
 rintro _ w3 ⟨g,h,rfl,c,i,d,j,G3⟩
 have z4:=G3.size
 have p:=c.lt
 have q:=d.lt
 refine kG G3 ?_
 obtain⟨x3,l,hm⟩:=Qd hm
 refine qz [] rfl (eC Qqy rfl (Qpf l c d)) ⟨fun _=>Qb,trivial⟩ ?_
 rintro _ w4 ⟨rfl,G4⟩
 have z7:=G4.size
 refine kG G4 ?_
 have S8:=(((Kp.refl ([]) w2).gr G3).gr G4)
 refine dn 0 rfl rfl S8<|Qa<|Qs ?_
 have X9:=(((((Gr.refl w).trans G1).trans G2).trans G3).trans G4)
 cases hm
 exact⟨_,_,rfl,Xj rfl (Qn rfl),rfl,X9⟩
theorem Qf8 {p0 p1 r}(hm:Ab p0 p1=some r){w:World}:
 Calls Tryz.prog 209 [.agg (Xv.cs p0).toArray,.agg (Xs.cs p1).toArray].toArray w fun e w'=>∃ v,e=.returned v∧(v=.bool r∧Gr w w'):=by
 unfold Ab at hm
 refine Xu 68 Tryz.func209 rfl rfl rfl<|qs 3 rfl<|qe rfl (Xp (cs:=Xv.cs p0) rfl rfl) ?_
 rintro _ w1 ⟨b1,rfl,F,f,G1⟩
 have z1:=G1.size
 have H:=f.lt
 refine qe rfl (Xp (cs:=Xs.cs p1) rfl rfl) ?_
 rintro _ w2 ⟨b2,rfl,G,g,G2⟩
 have z3:=G2.size
 have I:=g.lt
 refine qm rfl<|Qa<|Qj<|dw [([])] [] (.leaf [(0,10),(1,10),(2,10),(3,10),(4,10),(5,10)]) ?_
 intro w3 G3 J
 refine Xo<|dh 0 rfl rfl (fun w hS=>Qg Bg rfl) ?_
 have B5:=(g.gr G3)
 refine dh 0 rfl rfl (fun w hS=>Ql (v:=.int .i64 p1.Node) Xm rfl (Bx.kp B5 hS) rfl)<|dh 0 rfl rfl (fun w hS=>Qg Tw rfl)<|dh 0 rfl rfl (fun w hS=>Ql (v:=.int .i64 p1.Minus) Xm rfl (Bx.kp B5 hS) rfl)<|dm 0 rfl rfl<|dm 0 rfl rfl<|Qa<|Qj ?_
 refine Xz<|qs 6 rfl ?_
 have B6:=((f.gr G2).gr G3)
 refine qv rfl (Qu Kf rfl B6 rfl)<|qv rfl (Qg Bg rfl)<|qv rfl (Ql (v:=.int .i64 p1.Node) Xm rfl B5 rfl) ?_
 obtain⟨x1,i,hm⟩:=Qd hm
 refine qe rfl (eC Qkj rfl (Qjq i)) ?_
 rintro _ w4 ⟨rfl,G4⟩
 have z7:=G4.size
 refine qv rfl (Jj rfl)<|qm rfl<|Qa<|Zw hm rfl (fun c1 hm=>?_) (fun c1 hm=>?_)
 · refine qs 1 rfl<|qm rfl<|Qa<|Qs<|Je<|Zb ?_
   have Y1:=Gr.trans (Gr.trans (Gr.trans G1 G2) G3) G4
   have X8:=((Gr.refl w).trans Y1)
   cases hm
   exact⟨_,_,rfl,Xj rfl (Qn rfl),rfl,X8⟩
 have Y2:=Gr.trans (Gr.trans (Gr.trans G1 G2) G3) G4
 have X9:=((Gr.refl w).trans Y2)
 refine qj (β:=Bool) (rg 17 8) (fun a2=>[(17,.bool a2)]) (fun a2 wr=>(Qay p0 p1 a2=some r)∧Kz [] w4 wr) ?_ ?_
 · refine qg 8 rfl<|qv rfl (Qg Nz rfl) ?_
   have j:=(B6.gr G4)
   refine qv rfl (Ql (v:=bv p0.kind) Zj rfl j rfl)<|qv rfl (Pb (p:=p0.kind) (q:=1#8) rfl rfl)<|Zm hm rfl (Qw rfl) (fun k hm=>?_) (fun k hm=>?_)
   · refine qn 4 rfl<|Qi ?_
     exact⟨rfl,true,Qh,hm,Xi⟩
   refine qm rfl<|qv rfl (Kw (a:=p1.Minus) (b:=0) rfl rfl)<|qn 2 rfl<|Qi ?_
   exact⟨rfl,(decide (p1.Minus=0)),Qh,hm,Xi⟩
 clear hm;rintro a2 w5 ⟨hm,K5⟩
 have K:=K5.size
 unfold Qay at hm
 refine Zw hm rfl (fun c2 hm=>?_) (fun c2 hm=>?_)
 · refine qs 12 rfl<|qm rfl<|qv rfl (Kw (a:=p1.Minus) (b:=0) rfl rfl)<|Kr hm rfl (Qw rfl) (fun c3 hm=>?_) (fun c3 hm=>?_)
   · refine qn 7 rfl ?_
     refine qn 2 rfl<|Qa<|Qs<|Je<|Zb ?_
     have l:=(X9.kz K5)
     cases hm
     exact⟨_,_,rfl,Xj rfl (Qn rfl),rfl,l⟩
   refine qv rfl (Qg Nz rfl) ?_
   have m:=((B6.gr G4).kz K5)
   refine qv rfl (Ql (v:=bv p0.kind) Zj rfl m rfl)<|qv rfl (Pb (p:=p0.kind) (q:=1#8) rfl rfl)<|Zm hm rfl (Qw rfl) (fun c4 hm=>?_) (fun c4 hm=>?_)
   · refine qn 5 rfl<|Qa<|Qs ?_
     refine Je<|Zb ?_
     have n:=(X9.kz K5)
     cases hm
     exact⟨_,_,rfl,Xj rfl (Qn rfl),rfl,n⟩
   refine qm rfl<|qv rfl (Kw (a:=p1.Node) (b:=1) rfl rfl)<|qn 3 rfl<|Qa<|Qs ?_
   refine Je<|Zb ?_
   have o:=(X9.kz K5)
   cases hm
   exact⟨_,_,rfl,Xj rfl (Qn rfl),rfl,o⟩
 have c:=(X9.kz K5)
 refine qj (β:=Bool) (rg 36 17) (fun a3=>[(36,.bool a3)]) (fun a3 wr=>(Ac p0 p1 a3=some r)∧Kz [] w5 wr) ?_ ?_
 · refine qg 17 rfl ?_
   have s:=((B6.gr G4).kz K5)
   refine qv rfl (Qu Kf rfl s rfl)<|qv rfl (Qg Tw rfl) ?_
   have t:=((B5.gr G4).kz K5)
   refine qv rfl (Ql (v:=.int .i64 p1.Minus) Xm rfl t rfl) ?_
   obtain⟨x6,u,hm⟩:=Qd hm
   refine qe rfl (eC Qkj rfl (Qjq u)) ?_
   rintro _ w9 ⟨rfl,G9⟩
   have L:=G9.size
   refine qv rfl (Jj rfl)<|Pw hm rfl (Qw rfl) (fun c8 hm=>?_) (fun c8 hm=>?_)
   · refine qn 7 rfl ?_
     refine qn 4 rfl<|Qi ?_
     exact⟨rfl,true,Qh,hm,(Xi.gr G9)⟩
   refine qn 2 rfl<|qv rfl (Kw (a:=p1.Minus) (b:=p1.Node) rfl rfl)<|qm rfl<|Zm hm rfl (Qw rfl) (fun c9 hm=>?_) (fun c9 hm=>?_)
   · refine qn 6 rfl<|Qi ?_
     exact⟨rfl,true,Qh,hm,(Xi.gr G9)⟩
   refine qn 2 rfl ?_
   obtain⟨x7,x,hm⟩:=Qd hm
   refine qe rfl (eC Qfo rfl (Qez x)) ?_
   rintro _ M ⟨rfl,h⟩
   have N:=h.size
   refine qv rfl (Jj rfl)<|qn 2 rfl<|Qi ?_
   exact⟨rfl,(!x7),Qh,hm,((Xi.gr G9).gr h)⟩
 clear hm;rintro a3 w6 ⟨hm,K6⟩
 have O:=K6.size
 unfold Ac at hm
 refine Zw hm rfl (fun c5 hm=>?_) (fun c5 hm=>?_)
 · refine qs 1 rfl<|qm rfl<|Qa<|Qs<|Je<|Zb ?_
   have y:=(c.kz K6)
   cases hm
   exact⟨_,_,rfl,Xj rfl (Qn rfl),rfl,y⟩
 refine Vl<|Zo<|Zg<|qs 16 rfl<|qv rfl (Qg Nz rfl) ?_
 have d:=(((B6.gr G4).kz K5).kz K6)
 refine qv rfl (Ql (v:=bv p0.kind) Zj rfl d rfl)<|qv rfl (Pb (p:=p0.kind) (q:=2#8) rfl rfl)<|Zm hm rfl (Qw rfl) (fun c6 hm=>?_) (fun c6 hm=>?_)
 · refine qn 7 rfl ?_
   refine qn 5 rfl<|Qa<|Qs ?_
   have z:=(c.kz K6)
   cases hm
   exact⟨_,_,rfl,Xj rfl (Qn rfl),rfl,z⟩
 refine qv rfl (Qu Kf rfl d rfl)<|qm rfl ?_
 obtain⟨x4,A,hm⟩:=Qd hm
 refine qe rfl (eC Qfp rfl (Qf7 A)) ?_
 rintro _ w7 ⟨rfl,G7⟩
 have P:=G7.size
 refine qm rfl<|Pw hm rfl (Qw rfl) (fun c7 hm=>?_) (fun c7 hm=>?_)
 · refine qn 7 rfl ?_
   refine Qa<|Qs ?_
   have B:=((c.kz K6).trans G7)
   cases hm
   exact⟨_,_,rfl,Xj rfl (Qn rfl),rfl,B⟩
 have C:=(d.gr G7)
 refine qv rfl (Qu Kf rfl C rfl)<|qn 2 rfl ?_
 obtain⟨x5,D,hm⟩:=Qd hm
 refine qe rfl (eC Qkk rfl (Qjp D)) ?_
 rintro _ w8 ⟨rfl,G8⟩
 have Q:=G8.size
 refine qv rfl (Kw (a:=x5) (b:=0) rfl rfl)<|qn 2 rfl<|Qa<|Qs ?_
 have E:=(((c.kz K6).trans G7).trans G8)
 cases hm
 exact⟨_,_,rfl,Xj rfl (Qn rfl),rfl,E⟩
theorem Qal {p0 p1 vp1 zp1 gp1 op1 r}(hm:Sf p0 p1=some r){w:World}(h:Rd w zp1 gp1 op1 2 vp1 (p1.map Xs.cs)):
 Calls Tryz.prog 178 [.agg (Xn.cs p0).toArray,vp1].toArray w fun e w'=>∃ v,e=.returned v∧(v=.tuple [.agg (Xv.cs r.1).toArray,.int .i64 r.2].toArray∧Gr w w'):=by
 have A:=h.lth
 unfold Sf at hm
 refine Xu 31 Tryz.func178 rfl rfl rfl<|qs 3 rfl<|qe rfl (Xp (cs:=Xn.cs p0) rfl rfl) ?_
 rintro _ w1 ⟨b1,rfl,O,j,G1⟩
 have z2:=G1.size
 have U:=j.lt
 refine qe rfl (Qz (cs:=Xv.cs (Xv.mk 0#8 0 0)) Nl rfl) ?_
 rintro _ w2 ⟨b2,rfl,P,d,G2⟩
 have z4:=G2.size
 have V:=d.lt
 refine qm rfl<|qd 8 rfl ?_
 have B6:=(j.gr G2)
 refine qv rfl (Qu Jr rfl B6 rfl) ?_
 obtain⟨x1,B,hm⟩:=Qd hm
 refine qe rfl (eC Qk8 rfl (Qjo B)) ?_
 rintro _ w3 ⟨rfl,G3⟩
 have z7:=G3.size
 refine qn 3 rfl<|qe rfl (Qz (cs:=Xv.cs (Xv.mk 0#8 0 0)) Nl rfl) ?_
 rintro _ w4 ⟨b4,rfl,Q,m,G4⟩
 have z8:=G4.size
 have W:=m.lt
 refine qe rfl (Qr Kf rfl rfl rfl m rfl rfl) ?_
 rintro _ w5 ⟨n,M5⟩
 have X:=M5.size
 refine qm rfl<|Qa<|Qj<|qs 2 rfl<|qm rfl<|qv rfl (Jj rfl) ?_
 refine Qa<|Zw hm rfl (fun c1 hm=>?_) (fun c1 hm=>?_)
 · refine qs 3 rfl<|qv rfl (Zk (cs:=Xv.cs (Xv.mk 0#8 0 0)) Qa3 rfl rfl) ?_
   have Y1:=Gr.trans G3 G4
   have C:=((d.gr Y1).md M5)
   refine qe rfl (Qr Kf rfl rfl rfl C rfl rfl) ?_
   rintro _ w6 ⟨D,M6⟩
   have Y:=M6.size
   refine qm rfl<|qb ?_
   have Y2:=Gr.trans (Gr.trans G1 G2) Y1
   have E:=((((Gr.refl w).trans Y2).md M5).md M6)
   cases hm
   exact⟨_,_,rfl,Xy rfl (Zf Kf rfl D rfl) (Qn rfl),rfl,E⟩
 refine qu<|Qj<|qs 3 rfl<|qm rfl ?_
 have Y3:=Gr.trans (Gr.trans (Gr.trans G1 G2) G3) G4
 have o:=((h.gr Y3).md M5 (Qm A))
 refine qv rfl (Zx (l:=p1) (c:=Xs.cs) Tryz.underlying252 rfl o)<|qm rfl<|Qa<|Xz ?_
 have p:=(((Gr.refl w).trans Y3).md M5)
 refine Kb (α:=Nat × Int) ([5,9]++rg 20 10) (fun⟨n1,a3⟩=>[(5,.int .i64 0),(20,.int .i64 a3)]) (fun⟨n1,a3⟩ wr=>(Xq (Qak p1 x1) n1 a3=some r)∧Kz [] w5 wr) (fun⟨n1,a3⟩=>n1) ⟨Ze,0⟩ ?_ ?_ ?_
 · exact Qh
 · exact⟨hm,Kz.refl _ _⟩
 clear hm;rintro⟨n1,a3⟩ w7 ⟨hm,K7⟩
 have Z:=K7.size
 have hb:=Kd hm;clear hm;obtain⟨n1,rfl,hm⟩:=hb
 generalize g:Xq (Qak p1 x1) n1=R at hm
 unfold Qak at hm
 try dsimp only at hm
 refine qs 1 rfl<|qv rfl (Jb (a:=a3) (b:=(p1.length:Int)) rfl rfl)<|Qa<|Qj<|Kg hm rfl (fun c2 hm=>?_) (fun c2 hm=>?_)
 · refine Jl<|Zd<|Zd<|Jk<|Zg<|qs 3 rfl ?_
   have F:=(n.kz K7)
   refine qv rfl (Qu Kf rfl F rfl) ?_
   have Y4:=Gr.trans G3 G4
   have G:=(((d.gr Y4).md M5).kz K7)
   refine qe rfl (Qr Kf rfl rfl rfl G rfl rfl) ?_
   rintro _ aa ⟨q,s⟩
   have ab:=s.size
   refine qm rfl<|Qa<|Qs ?_
   have H:=((p.kz K7).md s)
   cases hm
   exact⟨_,_,rfl,Xy rfl (Zf Kf rfl q rfl) (Qn rfl),rfl,H⟩
 refine qu<|Qj<|Xz<|qs 4 rfl ?_
 obtain⟨y4,t,hm⟩:=Qd hm
 have u:=(o.kz K7)
 refine qv rfl (Vm (i:=a3) Tryz.underlying252 (Pc).siz rfl u rfl t)<|qv rfl (He Pc rfl u t (by first|rfl|omega))<|qe rfl (Qz (cs:=Xs.cs (Xs.mk 0 0)) Qec rfl) ?_
 rintro _ w8 ⟨b8,rfl,S,x,G8⟩
 have ac:=G8.size
 have T:=x.lt
 refine qe rfl (Qr Pc rfl rfl rfl x rfl rfl) ?_
 rintro _ w9 ⟨I,M9⟩
 have ad:=M9.size
 refine qd 4 rfl ?_
 have J:=(((n.kz K7).gr G8).md M9)
 refine qv rfl (Qu Kf rfl J rfl)<|qv rfl (Qu Pc rfl I rfl) ?_
 obtain⟨x5,K,hm⟩:=Qd hm
 refine qe rfl (eC Qfj rfl (Qf8 K)) ?_
 rintro _ L ⟨rfl,f⟩
 have ae:=f.size
 refine qv rfl (Jj rfl)<|Qa<|Nt hm rfl (fun c3 hm=>?_) (fun c3 hm=>?_)
 · refine Vl<|Zo<|Zg<|qg 2 rfl<|qv rfl (Zy (k:=.i64) (a:=a3) (b:=1) rfl rfl)<|qm rfl<|Qi ?_
   have K_26:Kz [] w5 L:=(((K7.gr G8).md M9).gr f)
   subst g
   exact⟨rfl,⟨n1,Qp (a3+1)⟩,Qh,⟨hm,K_26⟩,Nat.lt_succ_self _⟩
 refine qs 3 rfl<|qv rfl (Zk (cs:=Xv.cs (Xv.mk 0#8 0 0)) Qa3 rfl rfl) ?_
 have Y5:=Gr.trans G3 G4
 have M:=((((((d.gr Y5).md M5).kz K7).gr G8).md M9).gr f)
 refine qe rfl (Qr Kf rfl rfl rfl M rfl rfl) ?_
 rintro _ af ⟨y,z⟩
 have ag:=z.size
 refine qm rfl<|Qa<|Qs<|Je<|Zb<|Zb<|Je ?_
 refine Zb ?_
 have N:=(((((p.kz K7).trans G8).md M9).trans f).md z)
 cases hm
 exact⟨_,_,rfl,Xy rfl (Zf Kf rfl y rfl) (Qn rfl),rfl,N⟩
theorem Qjt {p0 p1 r}(hm:Mf p0 p1=some r){w:World}:
 Calls Tryz.prog 204 [.agg (Xv.cs p0).toArray,.int .i64 p1].toArray w fun e w'=>∃ v,e=.returned v∧(v=.bool r∧Gr w w'):=by
 unfold Mf at hm
 refine Xu 13 Tryz.func204 rfl rfl rfl<|qs 2 rfl<|qe rfl (Xp (cs:=Xv.cs p0) rfl rfl) ?_
 rintro _ w1 ⟨b1,rfl,f,c,G1⟩
 have z1:=G1.size
 have g:=c.lt
 refine qm rfl<|qd 9 rfl<|qm rfl<|qv rfl (Vd (a:=p1) (b:=0) rfl rfl)<|Kr hm rfl (Qw rfl) (fun c1 hm=>?_) (fun c1 hm=>?_)
 · refine qn 6 rfl<|Qa ?_
   refine Qs ?_
   have X5:=((Gr.refl w).trans G1)
   cases hm
   exact⟨_,_,rfl,Xj rfl (Qn rfl),rfl,X5⟩
 refine qm rfl<|qv rfl (Qu Kf rfl c rfl) ?_
 obtain⟨x1,d,hm⟩:=Qd hm
 refine qe rfl (eC Qfn rfl (Qf6 d)) ?_
 rintro _ w2 ⟨rfl,G2⟩
 have z3:=G2.size
 refine qv rfl (Jb (a:=p1) (b:=x1) rfl rfl)<|qn 2 rfl<|Qa<|Qs ?_
 have X4:=(((Gr.refl w).trans G1).trans G2)
 cases hm
 exact⟨_,_,rfl,Xj rfl (Qn rfl),rfl,X4⟩
theorem Qpi {p0 p1 r}(hm:Qf3 p0 p1=some r){w:World}:
 Calls Tryz.prog 179 [.agg (Xv.cs p0).toArray,.int .i64 p1].toArray w fun e w'=>∃ v,e=.returned v∧(∃ bc0 bc1,v=.func (.func 277) #[] [.pointer (some ⟨bc0,0,none⟩),.pointer (some ⟨bc1,0,none⟩)].toArray∧Bx w' bc0 277 (Xv.cs r.1)∧(w.heap.size≤bc0)∧Bx w' bc1 3 ([.int .i64 r.2])∧(w.heap.size≤bc1)∧Gr w w'):=by
 unfold Qf3 at hm
 refine Xu 6 Tryz.func179 rfl rfl rfl<|qs 3 rfl<|qe rfl (Xp (cs:=Xv.cs p0) rfl rfl) ?_
 rintro _ w1 ⟨b1,rfl,c,a,G1⟩
 have z1:=G1.size
 have f:=a.lt
 refine qe rfl (Xp (cs:=[.int .i64 p1]) rfl rfl) ?_
 rintro _ w2 ⟨b2,rfl,d,b,G2⟩
 have z3:=G2.size
 have g:=b.lt
 refine qm rfl<|qd 2 rfl<|qv rfl (Da rfl rfl)<|qm rfl<|Qa ?_
 refine Qs ?_
 have B5:=(a.gr G2)
 have X6:=(((Gr.refl w).trans G1).trans G2)
 cases hm
 exact⟨_,_,rfl,Xj rfl (Qn rfl),b1,b2,rfl,B5,by omega,b,by omega,X6⟩
theorem Qjs {p0 p1 r}(hm:Rn p0 p1=some r){w:World}:
 Calls Tryz.prog 278 [.agg (Xv.cs p0).toArray,.int .i64 p1].toArray w fun e w'=>∃ v,e=.returned v∧(v=.int .i64 r∧Gr w w'):=by
 unfold Rn at hm
 refine Xu 9 Tryz.func278 rfl rfl rfl<|qs 2 rfl<|qe rfl (Xp (cs:=Xv.cs p0) rfl rfl) ?_
 rintro _ w1 ⟨b1,rfl,f,c,G1⟩
 have z1:=G1.size
 have g:=c.lt
 refine qm rfl<|qd 5 rfl<|qv rfl (Qu Kf rfl c rfl) ?_
 obtain⟨x1,d,hm⟩:=Qd hm
 refine qe rfl (eC Qfn rfl (Qf6 d)) ?_
 rintro _ w2 ⟨rfl,G2⟩
 have z3:=G2.size
 refine qm rfl<|qv rfl (Zy (k:=.i64) (a:=x1) (b:=p1) rfl rfl)<|qm rfl<|Qa<|Qs ?_
 have X4:=(((Gr.refl w).trans G1).trans G2)
 cases hm
 exact⟨_,_,rfl,Xj rfl (Qn rfl),rfl,X4⟩
theorem Qao {p0 r}(hm:Sg p0=some r){w:World}:
 Calls Tryz.prog 281 [.int .i64 p0].toArray w fun e w'=>∃ v,e=.returned v∧(v=.int .i64 r∧Gr w w'):=by
 unfold Sg at hm
 refine Xu 5 Tryz.func281 rfl rfl rfl<|qs 1 rfl<|qm rfl<|qd 3 rfl ?_
 refine qm rfl<|qv rfl (Qwd (a:=p0) (b:=1) (by simp) rfl rfl)<|qm rfl<|Qa<|Qs ?_
 cases hm
 exact⟨_,_,rfl,Xj rfl (Qn rfl),rfl,(Gr.refl w)⟩
theorem Qph (p1:Xv)(p2:Int)(bp1:Nat)(bp2:Nat)(xs:List (Int × Int))(hm:Qf4 p1 p2=some xs)(w0:World)(hbp1:Bx w0 bp1 277 (Xv.cs p1))(hbp2:Bx w0 bp2 3 ([.int .i64 p2])):
 IT Tryz.prog 277 [.pointer (some ⟨bp1,0,none⟩),.pointer (some ⟨bp2,0,none⟩)] (xs.map (fun(x:Int × Int)=>([.int .i64 x.1,.int .i64 x.2]:List Value))) ([bp1]++[bp2]) w0:=by
 intro l J Jx w fp hG hJ hJx hcap h0 hY
 have c1:=Bx.gr hbp1 hG
 have c8:=c1.lt
 have aG:bp1∉fp:=hcap _ (by simp)
 have c4:=Bx.gr hbp2 hG
 have c9:=c4.lt
 have aH:bp2∉fp:=hcap _ (by simp)
 have hd:=Qfe xs
 unfold Qf4 at hm
 refine Xu 48 Tryz.func277 rfl rfl rfl<|qs 1 rfl<|qe rfl (Xp rfl rfl) ?_
 rintro _ w1 ⟨b1,rfl,cF,aI,G1⟩
 have z7:=G1.size
 have da:=aI.lt
 have aJ:b1∉fp:=fun h=>absurd (hJ.lt h0 _ h) (by omega)
 refine qd 4 rfl ?_
 have aK:=(c1.gr G1)
 refine qv rfl (Qu Kf rfl aK rfl) ?_
 have aL:=(c4.gr G1)
 refine qv rfl (Ql (v:=.int .i64 p2) Xm rfl aL rfl) ?_
 obtain⟨x1,bD,hm⟩:=Qd hm
 refine qe rfl (eC Qkh rfl (Qjs bD)) ?_
 rintro _ w2 ⟨rfl,G2⟩
 have bE:=(hJ.gr h0 G1)
 have db:=G2.size
 refine qm rfl<|Qa<|Qj<|qs 3 rfl ?_
 have aM:=(aI.gr G2)
 refine qv rfl (Ql Qhh rfl aM rfl) ?_
 have bF:=(hJ.gr bE G2)
 have KI17:Kp fp w w2:=(((Kp.refl fp w).gr G1).gr G2)
 obtain⟨rr15,hm,he15⟩:=Ot hm
 have ae:=Dr.at hd he15
 have hd15:=Dr.next hd he15
 have bG:=(aK.gr G2)
 have bH:=(aL.gr G2)
 refine qe rfl (Ud rfl rfl (hY _ _ _ _ (Gd ae) bF KI17 (fun c hc=>Or.inl hc))) ?_
 rintro _ w3 ⟨bb,rfl,KF15,n,hg15,hJb⟩
 have dc:=KF15.size
 have sub15:∀ c∈n,c∈fp∨w.heap.size≤c:=Ni (fun c hc=>Or.inl hc) hg15 (by omega)
 have aN:=Kt hg15 aG (by omega)
 have aO:=Kt hg15 aH (by omega)
 have aP:=Kt hg15 aJ (by omega)
 cases bb
 · have Jy15:Jx (0+1) n w3:=hJb
   refine qv rfl (Jj rfl)<|Qa<|Td rfl<|Qs<|Zb ?_
   have KI24:Kp fp w w3:=(KI17.trans KF15 (fun c hc=>Or.inl hc))
   exact⟨_,_,rfl,Ph rfl,KI24,.inr ⟨_,_,sub15,(by rw[List.length_map];exact(List.getElem?_eq_some_iff.1 ae).1),Jy15⟩⟩
 have Jy15:J (0+1) n w3:=hJb
 refine qv rfl (Jj rfl)<|Qa<|Gi rfl<|qu<|qs 2 rfl ?_
 refine qe rfl (Qz (cs:=[.int .i64 0]) Qee rfl) ?_
 rintro _ w4 ⟨b4,rfl,cG,aQ,G4⟩
 have de:=G4.size
 have cH:=aQ.lt
 have af:b4∉n:=fun h=>absurd (hJ.lt Jy15 _ h) (by omega)
 refine qe rfl (Js (cs':=[.int .i64 1]) (Wb).siz rfl rfl rfl aQ rfl rfl) ?_
 rintro _ w5 ⟨bI,M5⟩
 have df:=M5.size
 refine Qa<|Xz ?_
 have bJ:=(hJ.md (hJ.gr Jy15 G4) M5 af)
 have KI30:Kp fp w w5:=(((KI17.trans KF15 (fun c hc=>Or.inl hc)).gr G4).md M5 (Or.inr (by omega)))
 have bK:=(((Bx.kp bG KF15 aG).gr G4).md M5)
 have bL:=(((Bx.kp bH KF15 aH).gr G4).md M5)
 have bM:=(((Bx.kp aM KF15 aJ).gr G4).md M5)
 refine Qvq (α:=Nat × Int × Nat × Nat × List Nat × List (Int × Int)) ([5,6,7]++rg 14 34) (fun⟨n1,a2,bq1_5,kk,fpl,rl⟩=>[(5,.pointer (some ⟨bq1_5,0,none⟩))]) (fun⟨n1,a2,bq1_5,kk,fpl,rl⟩ ks wr=>(Xq (Qav p1 x1) n1 a2=some rl)∧Dr xs kk rl∧J kk fpl wr∧(∀ c∈fpl,c∈fp∨w.heap.size≤c)∧Kp fp w wr∧Bx wr bp1 277 (Xv.cs p1)∧Bx wr bp2 3 ([.int .i64 p2])∧Bx wr b1 362 [.func (.yield l) #[] #[]]∧bp1∉fpl∧bp2∉fpl∧b1∉fpl∧Bx wr bq1_5 301 ([.int .i64 a2])∧bq1_5∉fpl∧w.heap.size≤bq1_5∧bq1_5≠bp1∧bq1_5≠bp2∧bq1_5≠b1∧Ke w.heap.size ks fpl wr) (fun⟨n1,a2,bq1_5,kk,fpl,rl⟩=>n1) ⟨Ze,1,b4,(0+1),n,rr15⟩ [] rfl ?_ ?_ ?_
 · exact Qh
 · exact⟨hm,hd15,bJ,sub15,KI30,bK,bL,bM,aN,aO,aP,bI,af,(by omega),(by omega),(by omega),(by omega),(Qtm w.heap.size n w5)⟩
 clear hm;rintro⟨n1,a2,bq1_5,ad,fpl1,rl1⟩ ks1 w6 ⟨hm,dl1,JLw6,sl1,KLw6,o,D,E,f,g,d,m,e,bN,bO,bP,bQ,MKw6⟩
 have dg:=KLw6.size
 have cI:=o.lt
 have cJ:=D.lt
 have cK:=E.lt
 have cL:=m.lt
 have hb:=Kd hm;clear hm;obtain⟨n1,rfl,hm⟩:=hb
 generalize T:Xq (Qav p1 x1) n1=ag at hm
 unfold Qav at hm
 try dsimp only at hm
 refine Qj<|qs 3 rfl<|qv rfl (Ql (v:=.int .i64 a2) Wb rfl m rfl)<|qm rfl<|qv rfl (Zp (a:=a2) (b:=x1) rfl rfl)<|Qa ?_
 refine Kg hm rfl (fun c1 hm=>?_) (fun c1 hm=>?_)
 · refine Jl<|Zd<|Zd<|Jk ?_
   obtain⟨bR,ao,U⟩:=Ke.leave MKw6
   have ap:=Ke.stb hJ MKw6 JLw6 U
   have aq:=Ke.trans MKw6 KLw6 U
   have he:=Option.some.inj hm
   have hl:=Dr.last (c:=(fun(x:Int × Int)=>([.int .i64 x.1,.int .i64 x.2]:List Value))) dl1 he.symm
   refine⟨_,_,ao,Ph rfl,aq,.inl ⟨_,sl1,?_⟩⟩
   rw[←hl];exact ap
 refine qu<|Qj<|Xz<|Qj<|qs 3 rfl ?_
 refine qv rfl (Qg Nz rfl)<|qv rfl (Ql (v:=bv p1.kind) Zj rfl o rfl)<|qv rfl (Pb (p:=p1.kind) (q:=1#8) rfl rfl)<|Qa<|Zv hm rfl (fun c2 hm=>?_) (fun c2 hm=>?_)
 · refine Qj<|Qj<|dw [fpl1] [] (.leaf [(0,10),(1,10),(2,10),(3,0),(4,0),(5,0)]) ?_
   intro w7 G7 di
   refine Xo ?_
   have aR:=(E.gr G7)
   refine qh 0 rfl rfl (Kp.refl fpl1 w7) (fun w hS=>Ql Qhh rfl (Bx.kp aR hS d) rfl) ?_
   have aS:=(m.gr G7)
   refine qh 0 rfl rfl (Kp.refl fpl1 w7) (fun w hS=>Ql (v:=.int .i64 a2) Wb rfl (Bx.kp aS hS e) rfl)<|dn 0 rfl rfl (Kp.refl fpl1 w7) ?_
   obtain⟨x3,bS,hm⟩:=Qd hm
   refine qz [] rfl (eC Qb5 rfl (Qap bS)) ⟨fun _=>Qb,trivial⟩ ?_
   rintro _ w8 ⟨rfl,G8⟩
   have bT:=(hJ.gr JLw6 G7)
   have dj:=G8.size
   refine kG G8 ?_
   have bU:=(hJ.gr bT G8)
   have Y1:=Gr.trans G7 G8
   have KI45:Kp fp w w8:=(KLw6.gr Y1)
   obtain⟨rr43,hm,he43⟩:=Ot hm
   have ah:=Dr.at dl1 he43
   have hd43:=Dr.next dl1 he43
   have bV:=(o.gr Y1)
   have bW:=(D.gr Y1)
   have bX:=(aR.gr G8)
   have bY:=(aS.gr G8)
   refine Qpv rfl rfl rfl (Ud rfl rfl (hY _ _ _ _ (Gd ah) bU KI45 sl1)) ?_
   rintro _ w9 ⟨bb,rfl,KF43,u,hg43,hJb⟩
   refine⟨fun S=>Kp.trans S KF43 (fun b hb=>Or.inl hb),?_⟩
   have dk:=KF43.size
   have sub43:∀ c∈u,c∈fp∨w.heap.size≤c:=Ni sl1 hg43 (by omega)
   have MK51:=(MKw6.gr Y1)
   have MK43:=Ke.kp MK51 KF43 hg43
   have aT:=Kt hg43 f (by omega)
   have aU:=Kt hg43 g (by omega)
   have aV:=Kt hg43 d (by omega)
   have cM:=Kt hg43 e (by omega)
   cases bb
   · have Jy43:Jx (ad+1) u w9:=hJb
     refine qw rfl (Jj rfl)<|Qa<|Td rfl<|Qs<|Zb<|Zb<|Je ?_
     refine Zb<|Zb<|Je ?_
     have KI56:Kp fp w w9:=(KI45.trans KF43 sl1)
     obtain⟨cN,aW,ai⟩:=Ke.leave MK43
     have aX:=Ke.stb hJx MK43 Jy43 ai
     have aY:=Ke.trans MK43 KI56 ai
     exact⟨_,_,aW,Ph rfl,aY,.inr ⟨_,_,sub43,(by rw[List.length_map];exact(List.getElem?_eq_some_iff.1 ah).1),aX⟩⟩
   have Jy43:J (ad+1) u w9:=hJb
   refine qw rfl (Jj rfl)<|Qa<|Gi rfl<|qu<|Jl<|Zd ?_
   refine Jk<|Zg<|Qj<|qs 1 rfl ?_
   have bZ:=(Bx.kp bY KF43 e)
   refine qv rfl (Ql (v:=.int .i64 a2) Wb rfl bZ rfl)<|Qa<|qg 2 rfl<|qe rfl (Qz (cs:=[.int .i64 0]) Qee rfl) ?_
   rintro _ dl ⟨aZ,rfl,b0,V,F⟩
   have dp:=F.size
   have cO:=V.lt
   have X:aZ∉u:=fun h=>absurd (hJ.lt Jy43 _ h) (by omega)
   refine qe rfl (Js (cs':=[.int .i64 a2]) (Wb).siz rfl rfl rfl V rfl rfl) ?_
   rintro _ dq ⟨aj,G⟩
   have b2:=(hJ.gr Jy43 F)
   have MK63:=(MK43.gr F)
   have dr:=G.size
   refine Qa<|qg 4 rfl<|qv rfl (Ql (v:=.int .i64 a2) Wb rfl aj rfl)<|qm rfl ?_
   obtain⟨x4,b3,hm⟩:=Qd hm
   refine qe rfl (eC Qb5 rfl (Qap b3)) ?_
   rintro _ ds ⟨rfl,y⟩
   have b5:=(hJ.md b2 G X)
   have dt:=y.size
   have a0:=(aj.gr y)
   refine qe rfl (Js (cs':=[.int .i64 x4]) (Wb).siz rfl rfl rfl a0 rfl rfl) ?_
   rintro _ b6 ⟨a1,H⟩
   have b7:=(hJ.gr b5 y)
   have MK69:=((MK63.md G V).gr y)
   have du:=H.size
   refine Qi ?_
   have b8:=(hJ.md b7 H X)
   have KI72:Kp fp w b6:=(((((KI45.trans KF43 sl1).gr F).md G (Or.inr (by omega))).gr y).md H (Or.inr (by omega)))
   have b9:=(((((Bx.kp bV KF43 f).gr F).md G).gr y).md H)
   have ca:=(((((Bx.kp bW KF43 g).gr F).md G).gr y).md H)
   have cb:=(((((Bx.kp bX KF43 d).gr F).md G).gr y).md H)
   have MK76:=(MK69.md H a0)
   subst T
   exact⟨⟨n1,x4,aZ,(ad+1),u,rr43⟩,ks1,rfl,Qh,⟨hm,hd43,b8,sub43,KI72,b9,ca,cb,aT,aU,aV,a1,X,(by omega),(by omega),(by omega),(by omega),MK76⟩,Nat.lt_succ_self _⟩
 refine qu<|qs 3 rfl<|qv rfl (Ql (v:=.int .i64 a2) Wb rfl m rfl)<|qm rfl ?_
 obtain⟨x5,cc,hm⟩:=Qd hm
 refine qe rfl (eC Qfm rfl (Qf1 cc)) ?_
 rintro _ ar ⟨P,Q,rfl,j,aE,k,aF,z⟩
 have dv:=z.size
 have cP:=j.lt
 have A:P∉fpl1:=fun h=>absurd (hJ.lt JLw6 _ h) (by omega)
 have cQ:=k.lt
 have B:Q∉fpl1:=fun h=>absurd (hJ.lt JLw6 _ h) (by omega)
 refine Qa<|Xz ?_
 obtain⟨l6,cd,hm⟩:=Qd hm
 have ce:=(hJ.gr JLw6 z)
 have KI83:Kp fp w ar:=(KLw6.gr z)
 have a3:=(o.gr z)
 have a4:=(D.gr z)
 have a5:=(E.gr z)
 have a6:=(m.gr z)
 have MK88:=(MKw6.gr z)
 have MZ89:=MK88
 refine Ch (gf:=348) rfl Qfr (Qf0 x5.1 x5.2 _ _ _ cd _ j k) (by intro x hx;obtain⟨a,_,rfl⟩:=List.mem_map.1 hx;rfl) rfl _ _ fpl1 (Cf (α:=Nat × List Nat × (List (Int × Int))) (fun⟨kk,fpl,rl⟩ rk=>(Vw (Qaw p1 a2) (Qau x1 a2 ag) (List.drop rk l6) ()=some rl)∧Dr xs kk rl∧(∀ c∈fpl,c∈fp∨w.heap.size≤c)∧(∀ c∈fpl,c∈fpl1∨ar.heap.size≤c)) (fun⟨kk,fpl,rl⟩=>fpl) (fun⟨kk,fpl,rl⟩ W=>J kk fpl W) (by rintro⟨kk,fpl,rl⟩ W h b hb;exact hJ.lt h b hb) (by rintro⟨kk,fpl,rl⟩ W W' h he hs;exact hJ.keep h he hs)) (fun c=>Qnj (c=.ret) (Cf (α:=Nat × List Nat) (fun⟨kk,fpl⟩ rk=>kk≤xs.length∧(∀ c∈fpl,c∈fp∨w.heap.size≤c)∧(∀ c∈fpl,c∈fpl1∨ar.heap.size≤c)) (fun⟨kk,fpl⟩=>fpl) (fun⟨kk,fpl⟩ W=>Jx kk fpl W) (by rintro⟨kk,fpl⟩ W h b hb;exact hJx.lt h b hb) (by rintro⟨kk,fpl⟩ W W' h he hs;exact hJx.keep h he hs))) (by intro b hb;simp only[List.mem_cons,List.mem_append,Jc,List.not_mem_nil,or_false,false_or,not_or,ne_eq,List.nil_append,List.cons_append,true_and,and_true,false_and,and_false,not_true_eq_false,not_false_eq_true,or_true,true_or] at hb;rcases hb with rfl|rfl<;>first|exact⟨A,by omega⟩|exact⟨B,by omega⟩) ⟨(ad,fpl1,rl1),⟨hm,dl1,sl1,fun c hc=>Or.inl hc⟩,rfl,ce⟩ ?_ ?_ ?_
 · rintro l2 rk x fpr2 cf hl hx hIr r hF hln Kv
   clear hm
   obtain⟨e7,hxe,rfl⟩:=map_some hx
   obtain⟨⟨_,fpa,_⟩,⟨_,_,sa,sz⟩,ea,Ja⟩:=hIr
   replace ea:fpr2=fpa:=ea
   subst ea
   replace Ja:J _ fpr2 cf:=Ja
   have dy:=r.size
   have a7:=Kt hF f (by omega)
   have a8:=Kt hF g (by omega)
   have a9:=Kt hF d (by omega)
   have ba:=Kt hF e (by omega)
   have bc:=Kt hF A (by omega)
   have bd:=Kt hF B (by omega)
   have MKw15:=Ke.kp MZ89 r hF
   refine qg 1 rfl<|qm rfl<|Qi<|⟨rfl,(Gr.refl _),?_⟩
   rintro s t ⟨⟨kr2,fpb,rl2⟩,⟨hm,dr2,sr2,s0r2⟩,eb,Jr2⟩
   replace eb:fpr2=fpb:=eb
   subst eb
   replace Jr2:J kr2 fpr2 s:=Jr2
   have dz:=t.size
   replace hm:=Il hm hxe
   generalize hnx2:Vw (Qaw p1 a2) (Qau x1 a2 ag) (List.drop (rk+1) l6)=dA at hm
   unfold Qaw at hm
   try dsimp only at hm
   refine Xz<|qs 3 rfl<|qm rfl ?_
   obtain⟨x8,cg,hm⟩:=Qd hm
   refine qe rfl (eC Qb6 rfl (Qao cg)) ?_
   rintro _ dB ⟨rfl,R⟩
   have dC:=R.size
   refine qm rfl<|qd 12 rfl ?_
   have be:=(((Bx.kp a3 r f).md t).gr R)
   refine qv rfl (Qu Kf rfl be rfl) ?_
   have ak:=(((Bx.kp a6 r e).md t).gr R)
   refine qv rfl (Ql (v:=.int .i64 a2) Wb rfl ak rfl)<|qm rfl<|qv rfl (Zk (cs:=Xs.cs (Xs.mk a2 x8)) Ek rfl rfl) ?_
   obtain⟨x9,ch,hm⟩:=Qd hm
   refine qe rfl (eC Qfj rfl (Qf8 ch)) ?_
   rintro _ ci ⟨rfl,I⟩
   have al:=(hJ.gr Jr2 R)
   have cR:=I.size
   refine Bz hm rfl (Qw rfl) (fun c3 hm=>?_) (fun c3 hm=>?_)
   · refine qn 6 rfl<|Qa ?_
     refine Gi rfl<|Vl<|Zo ?_
     have bf:=(hJ.gr al I)
     subst hnx2
     have Y2:=Gr.trans R I
     exact⟨((Kp.refl fpr2 s).gr Y2),fpr2,(fun c hc=>Or.inl hc:∀ c∈fpr2,c∈fpr2∨s.heap.size≤c),(kr2,fpr2,rl2),⟨hm,dr2,sr2,(Ni s0r2 (fun c hc=>Or.inl hc:∀ c∈fpr2,c∈fpr2∨s.heap.size≤c) (by omega))⟩,rfl,bf⟩
   have Y3:=Gr.trans R I
   have bg:=(((Bx.kp a5 r d).md t).gr Y3)
   refine qv rfl (Ql Qhh rfl bg rfl) ?_
   have bh:=(ak.gr I)
   refine qv rfl (Ql (v:=.int .i64 a2) Wb rfl bh rfl)<|qm rfl ?_
   have bi:=(hJ.gr al I)
   have KI107:Kp fp w ci:=(((KI83.trans r sl1).md t (Or.inr (by omega))).gr Y3)
   obtain⟨rr105,hm,he105⟩:=Ot hm
   have Y:=Dr.at dr2 he105
   have hd105:=Dr.next dr2 he105
   have cS:=(be.gr I)
   have cT:=(((Bx.kp a4 r g).md t).gr Y3)
   have cU:=(((Bx.kp j r A).md t).gr Y3)
   have cV:=(((Bx.kp k r B).md t).gr Y3)
   refine qe rfl (Ud rfl rfl (hY _ _ _ _ (Gd Y) bi KI107 sr2)) ?_
   rintro _ bj ⟨bb,rfl,KF105,i,hg105,hJb⟩
   have cW:=KF105.size
   have sub105:∀ c∈i,c∈fp∨w.heap.size≤c:=Ni sr2 hg105 (by omega)
   have subr105:=Ni (fun c hc=>Or.inl hc:∀ c∈fpr2,c∈fpr2∨s.heap.size≤c) hg105 (by omega)
   have MK113:=((Ke.mdl MKw15 t MZ89 hl).gr Y3)
   have MK105:=Ke.kp MK113 KF105 hg105
   have cj:=Kt hg105 a7 (by omega)
   have ck:=Kt hg105 a8 (by omega)
   have cl:=Kt hg105 a9 (by omega)
   have cm:=Kt hg105 ba (by omega)
   have cn:=Kt hg105 bc (by omega)
   have co:=Kt hg105 bd (by omega)
   cases bb
   · have Jy105:Jx (kr2+1) i bj:=hJb
     refine qv rfl (Jj rfl)<|qm rfl<|Qa<|Td rfl<|Qs<|Je ?_
     exact⟨(((Kp.refl fpr2 s).gr Y3).trans KF105 (fun c hc=>Or.inl hc:∀ c∈fpr2,c∈fpr2∨s.heap.size≤c)),i,subr105,rfl,((kr2+1),i),⟨(List.getElem?_eq_some_iff.1 Y).1,sub105,(Ni s0r2 subr105 (by omega))⟩,rfl,Jy105⟩
   have Jy105:J (kr2+1) i bj:=hJb
   refine qv rfl (Jj rfl)<|qm rfl<|Qa<|Gi rfl<|Vl<|Zo ?_
   subst hnx2
   exact⟨(((Kp.refl fpr2 s).gr Y3).trans KF105 (fun c hc=>Or.inl hc:∀ c∈fpr2,c∈fpr2∨s.heap.size≤c)),i,subr105,((kr2+1),i,rr105),⟨hm,hd105,sub105,(Ni s0r2 subr105 (by omega))⟩,rfl,Jy105⟩
 · clear hm;rintro bk fpdw20 bl au Z bm ⟨⟨kd,fpe,rd⟩,⟨hm,dd,sd,s0d⟩,ed,Jd⟩ K
   replace ed:fpdw20=fpe:=ed
   subst ed
   replace Jd:J kd fpdw20 bl:=Jd
   have cX:=K.size
   have cp:=Df.lt (w:=bl) Z
   have av:=Kt s0d f (by omega)
   have aw:=Kt s0d g (by omega)
   have ax:=Kt s0d d (by omega)
   have cq:=Kt s0d e (by omega)
   have cr:=Kt s0d A (by omega)
   have ct:=Kt s0d B (by omega)
   have MKw20:=Ke.cons (Ke.kp MZ89 K s0d) MZ89 au (by omega) Z bm
   replace hm:=Io hm
   unfold Qau at hm
   try dsimp only at hm
   refine Zo<|Zo<|Zg<|Qj<|qs 1 rfl ?_
   have bn:=(Bx.kp a6 K e)
   refine qv rfl (Ql (v:=.int .i64 a2) Wb rfl bn rfl)<|Qa<|qg 2 rfl<|qe rfl (Qz (cs:=[.int .i64 0]) Qee rfl) ?_
   rintro _ dD ⟨bo,rfl,cu,aa,L⟩
   have cY:=L.size
   have cv:=aa.lt
   have M:bo∉fpdw20:=fun h=>absurd (hJ.lt Jd _ h) (by omega)
   refine qe rfl (Js (cs':=[.int .i64 a2]) (Wb).siz rfl rfl rfl aa rfl rfl) ?_
   rintro _ dE ⟨am,N⟩
   have bp:=(hJ.gr Jd L)
   have MK137:=(MKw20.gr L)
   have cZ:=N.size
   refine Qa<|qg 4 rfl<|qv rfl (Ql (v:=.int .i64 a2) Wb rfl am rfl)<|qm rfl ?_
   obtain⟨bq,br,hm⟩:=Qd hm
   refine qe rfl (eC Qb5 rfl (Qap br)) ?_
   rintro _ dF ⟨rfl,C⟩
   have bs:=(hJ.md bp N M)
   have c0:=C.size
   have an:=(am.gr C)
   refine qe rfl (Js (cs':=[.int .i64 bq]) (Wb).siz rfl rfl rfl an rfl rfl) ?_
   rintro _ cw ⟨bu,O⟩
   have bw:=(hJ.gr bs C)
   have MK143:=((MK137.md N aa).gr C)
   have c5:=O.size
   refine Qi ?_
   have bx:=(hJ.md bw O M)
   have KI146:Kp fp w cw:=(((((KI83.trans K sl1).gr L).md N (Or.inr (by omega))).gr C).md O (Or.inr (by omega)))
   have bz:=(((((Bx.kp a3 K f).gr L).md N).gr C).md O)
   have bA:=(((((Bx.kp a4 K g).gr L).md N).gr C).md O)
   have bB:=(((((Bx.kp a5 K d).gr L).md N).gr C).md O)
   have MK150:=(MK143.md O an)
   subst T
   exact⟨⟨n1,bq,bo,kd,fpdw20,rd⟩,(bk::ks1),rfl,Qh,⟨hm,dd,bx,sd,KI146,bz,bA,bB,av,aw,ax,bu,M,(by omega),(by omega),(by omega),(by omega),MK150⟩,Nat.lt_succ_self _⟩
 clear hm;rintro c6 c rk fpdw25 ay az ab bC hle ⟨rfl,⟨kd,fpe⟩,⟨led,sd,s0d⟩,ed,Jd⟩ aA
 replace ed:fpdw25=fpe:=ed
 subst ed
 replace Jd:Jx kd fpdw25 ay:=Jd
 have c7:=aA.size
 have cx:=Df.lt (w:=ay) ab
 have cy:=Kt s0d f (by omega)
 have cz:=Kt s0d g (by omega)
 have cA:=Kt s0d d (by omega)
 have cB:=Kt s0d e (by omega)
 have cC:=Kt s0d A (by omega)
 have cD:=Kt s0d B (by omega)
 have MKw25:=Ke.cons (Ke.kp MZ89 aA s0d) MZ89 az (by omega) ab bC
 refine Qs<|Je<|Je<|Zb<|Zb<|Je ?_
 have KI159:Kp fp w ay:=(KI83.trans aA sl1)
 obtain⟨cE,aB,ac⟩:=Ke.leave MKw25
 have aC:=Ke.stb hJx MKw25 Jd ac
 have aD:=Ke.trans MKw25 KI159 ac
 exact⟨_,_,aB,Ph rfl,aD,.inr ⟨_,_,sd,(by rw[List.length_map];exact led),aC⟩⟩
theorem Qey {p0 p1 r}(hm:Ey p0 p1=some r){w:World}:
 Calls Tryz.prog 207 [kv p0,.int .i64 p1].toArray w fun e w'=>∃ v,e=.returned v∧(v=kv r∧Gr w w'):=by
 unfold Ey at hm
 refine Xu 9 Tryz.func207 rfl rfl rfl<|qs 2 rfl<|qe rfl (Xp (cs:=kb p0) rfl rfl) ?_
 rintro _ w1 ⟨b1,rfl,d,a,G1⟩
 have z1:=G1.size
 have g:=a.lt
 refine qe rfl (Qz (cs:=kb k0) Jq rfl) ?_
 rintro _ w2 ⟨b2,rfl,f,b,G2⟩
 have z3:=G2.size
 have h:=b.lt
 refine qd 5 rfl ?_
 have B5:=(a.gr G2)
 refine qv rfl (Qu Qy rfl B5 rfl)<|qm rfl<|qv rfl (Yr Qpo rfl)<|qe rfl (eC Wn rfl (Wm p0 (Xr 30#8) (Wf _) (Wc _) (wd p1) _)) ?_
 rintro _ w3 ⟨rfl,G3⟩
 have z6:=G3.size
 have B7:=(b.gr G3)
 refine qe rfl (Qr Qy rfl rfl rfl B7 rfl rfl) ?_
 rintro _ w4 ⟨c,M4⟩
 have z8:=M4.size
 refine Qa<|Qs ?_
 have X9:=(((((Gr.refl w).trans G1).trans G2).trans G3).md M4)
 cases hm
 exact⟨_,_,rfl,Xj rfl (Zf Qy rfl c rfl),rfl,X9⟩
theorem Qew {p0 p1 p2 r}(hm:Ev p0 p1 p2=some r){w:World}:
 Calls Tryz.prog 206 [kv p0,.int .i64 p1,.int .i64 p2].toArray w fun e w'=>∃ v,e=.returned v∧(v=kv r∧Gr w w'):=by
 unfold Ev at hm
 refine Xu 20 Tryz.func206 rfl rfl rfl<|qs 2 rfl<|qe rfl (Xp (cs:=kb p0) rfl rfl) ?_
 rintro _ w1 ⟨b1,rfl,Q,p,G1⟩
 have z1:=G1.size
 have X:=p.lt
 refine qe rfl (Qz (cs:=kb k0) Jq rfl) ?_
 rintro _ w2 ⟨b2,rfl,R,q,G2⟩
 have z3:=G2.size
 have Y:=q.lt
 refine Qa<|Qj<|qs 3 rfl<|qn 2 rfl ?_
 obtain⟨x1,D,hm⟩:=Qd hm
 refine qe rfl (eC Qfm rfl (Qf1 D)) ?_
 rintro _ w3 ⟨s,t,rfl,d,u,f,y,G3⟩
 have z5:=G3.size
 have Z:=d.lt
 have aa:=f.lt
 refine Qa<|Xz ?_
 obtain⟨l2,F,hm⟩:=Qd hm
 have X8:=((((Gr.refl w).trans G1).trans G2).trans G3)
 have B9:=((p.gr G2).gr G3)
 have G:=(q.gr G3)
 refine Ch (gf:=348) rfl Qfr (Qf0 x1.1 x1.2 _ _ _ F _ d f) (by intro x hx;obtain⟨a,_,rfl⟩:=List.mem_map.1 hx;rfl) rfl _ (fun _ _ _ _=>False) ([b1]) (Cf (α:=W2) (fun a4 rk=>Vw Qaj Qah (List.drop rk l2) a4=some r) (fun a4=>([b1])) (fun a4 W=>Bx W b1 36 (kb a4)∧True) (by rintro a4 W ⟨F0,_⟩ b hb;have q0:=F0.lt;replace hb:b∈([b1]):=hb;simp only[List.mem_cons,List.mem_append,Jc,List.not_mem_nil,or_false,false_or,not_or,ne_eq,List.nil_append,List.cons_append,true_and,and_true,false_and,and_false,not_true_eq_false,not_false_eq_true,or_true,true_or] at hb;omega) (by rintro a4 W W' ⟨F0,_⟩ E hs;replace hs:∀ b∈([b1]),W'.heap[b]? = W.heap[b]? := hs;exact⟨(hs _ (by simp)).trans F0,trivial⟩)) (fun _=>Oh) (by intro b hb;simp only[List.mem_cons,List.mem_append,Jc,List.not_mem_nil,or_false,false_or,not_or,ne_eq,List.nil_append,List.cons_append,true_and,and_true,false_and,and_false,not_true_eq_false,not_false_eq_true,or_true,true_or] at hb ⊢;omega) ⟨p0,hm,rfl,B9,trivial⟩ ?_ ?_ ?_
 · rintro l rk x fp w4 hl hx _ K4 hF hln Kv
   clear hm
   obtain⟨e5,hxe,rfl⟩:=map_some hx
   have H:Kz [(1,b1)] w3 w4:=Ll K4 (by intro k hk;simp only[Jo,and_true,List.mem_cons,List.mem_append,Jc,List.not_mem_nil,or_false,false_or,not_or,ne_eq,List.nil_append,List.cons_append,true_and,and_true,false_and,and_false,not_true_eq_false,not_false_eq_true,or_true,true_or] at hk ⊢;omega)
   have ab:=K4.size
   refine qg 1 rfl<|qm rfl<|Qi<|⟨rfl,(Gr.refl _),?_⟩
   rintro w5 M5 ⟨a4,hm,rfl,g,-⟩
   have ac:=M5.size
   have S:=g.lt
   replace hm:=Il hm hxe
   generalize hnx1:Vw Qaj Qah (List.drop (rk+1) l2)=I at hm
   unfold Qaj at hm
   try dsimp only at hm
   refine Xz<|qs 1 rfl<|qm rfl<|Qa ?_
   have ad:=((X8.kz H).md M5)
   refine qj (β:=BitVec 8) [8,13,14,15] (fun a6=>[(8,bv a6)]) (fun a6 wr=>(Qai a4 I a6=some r)∧Kz [] w5 wr) ?_ ?_
   · refine qs 3 rfl<|qm rfl ?_
     obtain⟨x7,J,hm⟩:=Qd hm
     refine qv rfl (Db (a:=e5) (b:=2) rfl rfl J)<|qv rfl (Kw (a:=x7) (b:=1) rfl rfl)<|Qa<|Kg hm rfl (fun c1 hm=>?_) (fun c1 hm=>?_)
     · refine Vl ?_
       exact⟨rfl,31#8,Qh,hm,Xi⟩
     refine qg 1 rfl<|qm rfl<|Qi ?_
     exact⟨rfl,32#8,Qh,hm,Xi⟩
   clear hm;rintro a6 w6 ⟨hm,K6⟩
   have ae:=K6.size
   unfold Qai at hm
   refine qg 4 rfl ?_
   have z:=(g.kz K6)
   refine qv rfl (Qu Qy rfl z rfl)<|qm rfl<|qe rfl (eC Wn rfl (Wm a4 (Xr a6) (Wf _) (Wc _) 0#64 _)) ?_
   rintro _ w7 ⟨rfl,G7⟩
   have af:=G7.size
   have K:=(z.gr G7)
   refine qe rfl (Qr Qy rfl rfl rfl K rfl rfl) ?_
   rintro _ w8 ⟨L,M8⟩
   have ag:=M8.size
   refine Qi<|Zo ?_
   have K_20:Kz [(1,b1)] w5 w8:=(((Kz.kz (Kz.refl _ _) K6).gr G7).md M8)
   have Kq20:Kp ([b1]) w5 w8:=Ir K_20 (by intro k hk;simp only[Jo,and_true,List.mem_cons,List.mem_append,Jc,List.not_mem_nil,or_false,false_or,not_or,ne_eq,List.nil_append,List.cons_append,true_and,and_true,false_and,and_false,not_true_eq_false,not_false_eq_true,or_true,true_or] at hk ⊢;omega)
   subst hnx1
   exact⟨Kq20,([b1]),(by intro c hc;simp only[List.mem_cons,List.mem_append,Jc,List.not_mem_nil,or_false,false_or,not_or,ne_eq,List.nil_append,List.cons_append,true_and,and_true,false_and,and_false,not_true_eq_false,not_false_eq_true,or_true,true_or] at hc ⊢;omega),⟨Ki a4 (Xr a6) 0#64,hm,rfl,L,trivial⟩⟩
 · clear hm;rintro m fp w9 T j M ⟨a4,hm,rfl,i,-⟩ K9
   replace hm:=Io hm
   have A:Kz [(1,b1)] w3 w9:=Ll K9 (by intro k hk;simp only[Jo,and_true,List.mem_cons,List.mem_append,Jc,List.not_mem_nil,or_false,false_or,not_or,ne_eq,List.nil_append,List.cons_append,true_and,and_true,false_and,and_false,not_true_eq_false,not_false_eq_true,or_true,true_or] at hk ⊢;omega)
   have ah:=K9.size
   have U:=Df.lt (w:=w9) j
   simp only[List.mem_cons,List.mem_append,Jc,List.not_mem_nil,or_false,false_or,not_or,ne_eq,List.nil_append,List.cons_append,true_and,and_true,false_and,and_false,not_true_eq_false,not_false_eq_true,or_true,true_or,not_and] at M
   have V:=i.lt
   unfold Qah at hm
   try dsimp only at hm
   refine Zo<|Zg<|qs 2 rfl<|qv rfl (Qu Qy rfl i rfl) ?_
   have N:=(G.kz A)
   refine qe rfl (Qr Qy rfl rfl rfl N rfl rfl) ?_
   rintro _ B ⟨C,n⟩
   have ai:=n.size
   refine Qa<|Qs ?_
   have DL28:=(Df.md j n)
   have o:=Md.put (w:=B) m (.deferred none)
   have zL28:=o.size
   have O:=(C.md o)
   have P:Gr w (B.putObj m (.deferred none)):=(((X8.kz A).md n).md o)
   cases hm
   refine⟨_,_,⟨m,rfl,DL28,rfl⟩,Xj rfl (Zf Qy rfl O rfl),?_⟩
   exact⟨rfl,P⟩
 rintro _ _ _ _ _ _ _ _ _ h _
 exact h.elim
theorem Qjn {p0 r}(hm:Qan p0=some r){w:World}:
 Calls Tryz.prog 289 [kv p0].toArray w fun e w'=>∃ v,e=.returned v∧(v=kv r∧Gr w w'):=by
 unfold Qan at hm
 refine Xu 5 Tryz.func289 rfl rfl rfl<|qs 2 rfl<|qe rfl (Xp (cs:=kb p0) rfl rfl) ?_
 rintro _ w1 ⟨b1,rfl,d,a,G1⟩
 have z1:=G1.size
 have g:=a.lt
 refine qe rfl (Qz (cs:=kb k0) Jq rfl) ?_
 rintro _ w2 ⟨b2,rfl,f,b,G2⟩
 have z3:=G2.size
 have h:=b.lt
 refine qd 3 rfl ?_
 have B5:=(a.gr G2)
 refine qv rfl (Qu Qy rfl B5 rfl)<|qe rfl (eC Wn rfl (Wm p0 (Xr 33#8) (Wf _) (Wc _) 0#64 _)) ?_
 rintro _ w3 ⟨rfl,G3⟩
 have z6:=G3.size
 have B7:=(b.gr G3)
 refine qe rfl (Qr Qy rfl rfl rfl B7 rfl rfl) ?_
 rintro _ w4 ⟨c,M4⟩
 have z8:=M4.size
 refine Qa<|Qs ?_
 have X9:=(((((Gr.refl w).trans G1).trans G2).trans G3).md M4)
 cases hm
 exact⟨_,_,rfl,Xj rfl (Zf Qy rfl c rfl),rfl,X9⟩
theorem Qjr {p0 p1 p2 r}(hm:Qat p0 p1 p2=some r){w:World}:
 Calls Tryz.prog 205 [.agg (Xv.cs p0).toArray,kv p1,.agg (Xs.cs p2).toArray].toArray w fun e w'=>∃ v,e=.returned v∧(v=kv r∧Gr w w'):=by
 unfold Qat at hm
 refine Xu 32 Tryz.func205 rfl rfl rfl<|qs 4 rfl<|qe rfl (Xp (cs:=Xv.cs p0) rfl rfl) ?_
 rintro _ w1 ⟨b1,rfl,H,i,G1⟩
 have z1:=G1.size
 have L:=i.lt
 refine qe rfl (Xp (cs:=kb p1) rfl rfl) ?_
 rintro _ w2 ⟨b2,rfl,I,c,G2⟩
 have z3:=G2.size
 have M:=c.lt
 refine qe rfl (Xp (cs:=Xs.cs p2) rfl rfl) ?_
 rintro _ w3 ⟨b3,rfl,J,j,G3⟩
 have z5:=G3.size
 have N:=j.lt
 refine qe rfl (Qz (cs:=kb k0) Jq rfl) ?_
 rintro _ w4 ⟨b4,rfl,K,d,G4⟩
 have z7:=G4.size
 have O:=d.lt
 refine Qa<|Qj<|dw [([])] [] (.leaf [(0,10),(1,10),(2,10),(3,10),(4,10),(5,10)]) ?_
 intro w5 G5 P
 refine Xo<|dh 0 rfl rfl (fun w hS=>Qg Bg rfl) ?_
 have Y1:=Gr.trans G4 G5
 have B9:=(j.gr Y1)
 refine dh 0 rfl rfl (fun w hS=>Ql (v:=.int .i64 p2.Node) Xm rfl (Bx.kp B9 hS) rfl)<|dh 0 rfl rfl (fun w hS=>Qg Tw rfl)<|dh 0 rfl rfl (fun w hS=>Ql (v:=.int .i64 p2.Minus) Xm rfl (Bx.kp B9 hS) rfl)<|dm 0 rfl rfl<|dm 0 rfl rfl<|Qa<|Qj ?_
 refine Xz<|qs 4 rfl<|qv rfl (Qg Nz rfl) ?_
 have Y2:=Gr.trans (Gr.trans G2 G3) Y1
 have m:=(i.gr Y2)
 refine qv rfl (Ql (v:=bv p0.kind) Zj rfl m rfl)<|qv rfl (Pb (p:=p0.kind) (q:=1#8) rfl rfl)<|qm rfl<|Qa<|Zv hm rfl (fun c1 hm=>?_) (fun c1 hm=>?_)
 · refine qs 4 rfl ?_
   have Y3:=Gr.trans G3 Y1
   have n:=(c.gr Y3)
   refine qv rfl (Qu Qy rfl n rfl)<|qm rfl ?_
   obtain⟨x1,o,hm⟩:=Qd hm
   refine qe rfl (eC Qfi rfl (Qey o)) ?_
   rintro _ w6 ⟨rfl,G6⟩
   have Q:=G6.size
   have s:=((d.gr G5).gr G6)
   refine qe rfl (Qr Qy rfl rfl rfl s rfl rfl) ?_
   rintro _ w7 ⟨t,M7⟩
   have R:=M7.size
   refine Qa<|Qs<|Je<|Zb ?_
   have u:=(((((Gr.refl w).trans G1).trans Y2).trans G6).md M7)
   cases hm
   exact⟨_,_,rfl,Xj rfl (Zf Qy rfl t rfl),rfl,u⟩
 refine qs 3 rfl<|qm rfl<|qv rfl (Kw (a:=p2.Minus) (b:=0) rfl rfl)<|qm rfl<|Qa<|Zv hm rfl (fun c2 hm=>?_) (fun c2 hm=>?_)
 · refine qs 3 rfl ?_
   have Y4:=Gr.trans G3 Y1
   have x:=(c.gr Y4)
   refine qv rfl (Qu Qy rfl x rfl)<|qe rfl (eC Wn rfl (Wm p1 (Xr 34#8) (Wf _) (Wc _) 0#64 _)) ?_
   rintro _ w8 ⟨rfl,G8⟩
   have S:=G8.size
   have y:=((d.gr G5).gr G8)
   refine qe rfl (Qr Qy rfl rfl rfl y rfl rfl) ?_
   rintro _ w9 ⟨z,M9⟩
   have T:=M9.size
   refine Qa<|Qs<|Je<|Zb ?_
   have A:=(((((Gr.refl w).trans G1).trans Y2).trans G8).md M9)
   cases hm
   exact⟨_,_,rfl,Xj rfl (Zf Qy rfl z rfl),rfl,A⟩
 refine Vl<|Zo<|Zg<|qs 8 rfl ?_
 have Y5:=Gr.trans G3 Y1
 have B:=(c.gr Y5)
 refine qv rfl (Qu Qy rfl B rfl)<|qm rfl ?_
 obtain⟨x2,C,hm⟩:=Qd hm
 refine qe rfl (eC Qfi rfl (Qey C)) ?_
 rintro _ U ⟨rfl,f⟩
 have V:=f.size
 refine qn 2 rfl ?_
 obtain⟨x3,D,hm⟩:=Qd hm
 refine qe rfl (eC Qfh rfl (Qew D)) ?_
 rintro _ W ⟨rfl,g⟩
 have X:=g.size
 obtain⟨x4,E,hm⟩:=Qd hm
 refine qe rfl (eC Qki rfl (Qjn E)) ?_
 rintro _ Y ⟨rfl,h⟩
 have Z:=h.size
 have Y6:=Gr.trans (Gr.trans (Gr.trans G5 f) g) h
 have F:=(d.gr Y6)
 refine qe rfl (Qr Qy rfl rfl rfl F rfl rfl) ?_
 rintro _ aa ⟨k,l⟩
 have ab:=l.size
 refine Qa<|Qs ?_
 have G:=(((((((Gr.refl w).trans G1).trans Y2).trans f).trans g).trans h).md l)
 cases hm
 exact⟨_,_,rfl,Xj rfl (Zf Qy rfl k rfl),rfl,G⟩
theorem Qpe {p0 p1 p2 r}(hm:Qev p0 p1 p2=some r){w:World}:
 Calls Tryz.prog 117 [kv p0,.agg (Xn.cs p1).toArray,.int .i64 p2].toArray w fun e w'=>∃ v,e=.returned v∧(∃ ur0_1 zr0_1 gr0_1,v=.tuple [.agg (Xt.cs r.1 ur0_1).toArray,.int .i64 r.2].toArray∧Qe w' zr0_1 gr0_1 120 18 ur0_1 (r.1.Labels.map Zr.cs)∧Xk (zr0_1=0∨w.heap.size≤gr0_1)∧Gr w w'):=by
 unfold Qev at hm
 refine Xu 61 Tryz.func117 rfl rfl rfl<|qs 4 rfl<|qe rfl (Xp (cs:=kb p0) rfl rfl) ?_
 rintro _ w1 ⟨b1,rfl,bn,an,G1⟩
 have z1:=G1.size
 have bI:=an.lt
 refine qe rfl (Xp (cs:=Xn.cs p1) rfl rfl) ?_
 rintro _ w2 ⟨b2,rfl,bo,ao,G2⟩
 have z3:=G2.size
 have bJ:=ao.lt
 refine qe rfl (Qz (cs:=Xt.cs (Xt.mk 0 [] (Qx.mk 0#64 0#64)) (.slice none 0 0)) Eh rfl) ?_
 rintro _ w3 ⟨b3,rfl,bp,M,G3⟩
 have z5:=G3.size
 have bK:=M.lt
 refine qm rfl<|qd 8 rfl ?_
 have B7:=(ao.gr G3)
 refine qv rfl (Qu Jr rfl B7 rfl) ?_
 obtain⟨x1,aQ,hm⟩:=Qd hm
 refine qe rfl (eC Qb3 rfl (Qal aQ (Qe.rd (Za _ 0 193 2)))) ?_
 rintro _ w4 ⟨rfl,G4⟩
 have z8:=G4.size
 refine qn 3 rfl<|qe rfl (Qz (cs:=Xv.cs (Xv.mk 0#8 0 0)) Nl rfl) ?_
 rintro _ w5 ⟨b5,rfl,bq,ap,G5⟩
 have z9:=G5.size
 have br:=ap.lt
 refine qe rfl (Qr Kf rfl rfl rfl ap rfl rfl) ?_
 rintro _ w6 ⟨aq,M6⟩
 have bL:=M6.size
 refine qm rfl<|Qa<|Qj<|qs 2 rfl<|qm rfl<|qv rfl (Zp (a:=x1.2) (b:=0) rfl rfl) ?_
 refine Qa<|Zv hm rfl (fun c1 hm=>?_) (fun c1 hm=>?_)
 · refine qs 4 rfl<|qv rfl (Zk (cs:=Xt.cs (Xt.mk 0 [] (Qx.mk 0#64 0#64)) (.slice none 0 0)) Ns rfl rfl)<|qm rfl ?_
   have Y1:=Gr.trans G4 G5
   have aR:=((M.gr Y1).md M6)
   refine qe rfl (Qr Vf rfl rfl (Xt.cs_ones _ _ rfl) aR rfl rfl) ?_
   rintro _ w7 ⟨aS,M7⟩
   have bM:=M7.size
   refine qm rfl<|qb ?_
   have Y2:=Gr.trans (Gr.trans (Gr.trans G1 G2) G3) Y1
   have aT:=((((Gr.refl w).trans Y2).md M6).md M7)
   cases hm
   exact⟨_,_,rfl,Xy rfl (Zf Vf rfl aS rfl) (Qn rfl),(.slice none 0 0),0,0,rfl,(Za _ 0 120 18),⟨.inl rfl⟩,aT⟩
 refine qu<|Qj<|qs 4 rfl<|qv rfl (Qu Kf rfl aq rfl)<|qm rfl ?_
 obtain⟨x2,aU,hm⟩:=Qd hm
 refine qe rfl (eC Qk9 rfl (Qjt aU)) ?_
 rintro _ w8 ⟨rfl,G8⟩
 have bN:=G8.size
 refine qv rfl (Jj rfl)<|Qa<|Zw hm rfl (fun c2 hm=>?_) (fun c2 hm=>?_)
 · refine qs 3 rfl<|qv rfl (Zk (cs:=Xt.cs (Xt.mk 0 [] (Qx.mk 0#64 0#64)) (.slice none 0 0)) Ns rfl rfl) ?_
   have Y3:=Gr.trans G4 G5
   have aV:=(((M.gr Y3).md M6).gr G8)
   refine qe rfl (Qr Vf rfl rfl (Xt.cs_ones _ _ rfl) aV rfl rfl) ?_
   rintro _ w9 ⟨aW,M9⟩
   have bO:=M9.size
   refine qm rfl<|qb ?_
   have Y4:=Gr.trans (Gr.trans (Gr.trans G1 G2) G3) Y3
   have aX:=(((((Gr.refl w).trans Y4).md M6).trans G8).md M9)
   cases hm
   exact⟨_,_,rfl,Xy rfl (Zf Vf rfl aW rfl) (Qn rfl),(.slice none 0 0),0,0,rfl,(Za _ 0 120 18),⟨.inl rfl⟩,aX⟩
 refine qu<|qs 4 rfl<|qm rfl<|qv rfl (Zk (cs:=Xt.cs (Xt.mk p2 [] (Qx.mk 0#64 0#64)) (.slice none 0 0)) Ns rfl rfl)<|qe rfl (Qz (cs:=Xt.cs (Xt.mk 0 [] (Qx.mk 0#64 0#64)) (.slice none 0 0)) Eh rfl) ?_
 rintro _ bP ⟨d,rfl,aY,S,ar⟩
 have bQ:=ar.size
 have bs:=S.lt
 refine qe rfl (Qr Vf rfl rfl (Xt.cs_ones _ _ rfl) S rfl rfl) ?_
 rintro _ bR ⟨au,C⟩
 have bS:=C.size
 refine Qa<|Qj<|qs 3 rfl ?_
 have Y5:=Gr.trans G8 ar
 have av:=((aq.gr Y5).md C)
 refine qv rfl (Qu Kf rfl av rfl)<|qm rfl ?_
 obtain⟨x3,aZ,hm⟩:=Qd hm
 refine qe rfl (eC Qqd rfl (Qpi aZ)) ?_
 rintro _ F ⟨aj,ak,rfl,f,al,g,am,q⟩
 have bT:=q.size
 have bu:=f.lt
 have bw:=g.lt
 refine Qa<|Xz ?_
 obtain⟨l4,a0,hm⟩:=Qd hm
 have Y6:=Gr.trans (Gr.trans (Gr.trans (Gr.trans G1 G2) G3) G4) G5
 have aw:=((((((Gr.refl w).trans Y6).md M6).trans Y5).md C).trans q)
 have Y7:=Gr.trans (Gr.trans (Gr.trans G2 G3) G4) G5
 have ax:=(((((an.gr Y7).md M6).gr Y5).md C).gr q)
 have Y8:=Gr.trans G4 G5
 have bU:=(((((B7.gr Y8).md M6).gr Y5).md C).gr q)
 have a1:=(((((M.gr Y8).md M6).gr Y5).md C).gr q)
 have a2:=(av.gr q)
 have a3:=(au.gr q)
 refine Ch (gf:=277) rfl Qqn (Qph x3.1 x3.2 _ _ _ a0 _ f g) (by intro x hx;obtain⟨a,_,rfl⟩:=List.mem_map.1 hx;rfl) rfl _ (fun _ _ _ _=>False) ([d]++zf 0 0) (Cf (α:=List Zr × Value × Nat × Nat) (fun⟨a7,vy8,zy8,gy8⟩ rk=>Vw (Qag p0 x1) (Qae p2) (List.drop rk l4) a7=some r) (fun⟨a7,vy8,zy8,gy8⟩=>([d]++zf zy8 gy8)) (fun⟨a7,vy8,zy8,gy8⟩ W=>Qe W zy8 gy8 120 18 vy8 (a7.map Zr.cs)∧Xk (zy8=0∨F.heap.size≤gy8)∧Bx W d 67 (Xt.cs (Xt.mk p2 a7 (Qx.mk 0#64 0#64)) vy8)∧True) (by rintro⟨a7,vy8,zy8,gy8⟩ W ⟨F0,F1,F2,_⟩ b hb;have q0:=F0.lt;have q2:=F2.lt;replace hb:b∈([d]++zf zy8 gy8):=hb;simp only[List.mem_cons,List.mem_append,Jc,List.not_mem_nil,or_false,false_or,not_or,ne_eq,List.nil_append,List.cons_append,true_and,and_true,false_and,and_false,not_true_eq_false,not_false_eq_true,or_true,true_or] at hb;omega) (by rintro⟨a7,vy8,zy8,gy8⟩ W W' ⟨F0,F1,F2,_⟩ E hs;replace hs:∀ b∈([d]++zf zy8 gy8),W'.heap[b]? = W.heap[b]? := hs;exact⟨Qe.hs F0 hs (fun hz=>by simp[Jc,hz]),F1,(hs _ (by simp)).trans F2,trivial⟩)) (fun _=>Oh) (by intro b hb;simp only[List.mem_cons,List.mem_append,Jc,List.not_mem_nil,or_false,false_or,not_or,ne_eq,List.nil_append,List.cons_append,true_and,and_true,false_and,and_false,not_true_eq_false,not_false_eq_true,or_true,true_or] at hb ⊢;omega) ⟨⟨[],(.slice none 0 0),0,0⟩,hm,rfl,(Za _ 0 120 18),⟨(.inl rfl)⟩,a3,trivial⟩ ?_ ?_ ?_
 · rintro l rk x fp a4 hl hx _ ay hF hln Kv
   clear hm
   obtain⟨⟨e9,n⟩,hxe,rfl⟩:=map_some hx
   have s:Kz [(1,d),(0,0)] F a4:=Ll ay (by intro k hk;simp only[Jo,and_true,List.mem_cons,List.mem_append,Jc,List.not_mem_nil,or_false,false_or,not_or,ne_eq,List.nil_append,List.cons_append,true_and,and_true,false_and,and_false,not_true_eq_false,not_false_eq_true,or_true,true_or] at hk ⊢;omega)
   have bV:=ay.size
   refine qs 1 rfl<|qm rfl<|Qa<|qg 1 rfl<|qm rfl<|Qi ?_
   refine⟨rfl,(Gr.refl _),?_⟩
   rintro N G ⟨⟨a7,vy8,zy8,gy8⟩,hm,rfl,t,i,u,-⟩
   have bW:=G.size
   have T:=t.lth
   have bx:=u.lt
   replace hm:=Il hm hxe
   generalize hnx1:Vw (Qag p0 x1) (Qae p2) (List.drop (rk+1) l4)=a5 at hm
   unfold Qag at hm
   try dsimp only at hm
   refine Xz<|qs 5 rfl<|qn 2 rfl<|qv rfl (Zk (cs:=Zr.cs (Zr.mk e9 n k0)) Qop rfl (by kernel_rfl))<|qe rfl (Qz (cs:=Zr.cs (Zr.mk 0 0 k0)) Qeb rfl) ?_
   rintro _ bX ⟨ac,rfl,a6,U,o⟩
   have bY:=o.size
   have bz:=U.lt
   refine qe rfl (Qr Ly rfl rfl rfl U rfl rfl) ?_
   rintro _ a8 ⟨H,p⟩
   have bZ:=p.size
   refine Qa ?_
   have b0:=((((aw.kz s).md G).trans o).md p)
   refine qj (β:=W2) (rg 38 16) (fun D=>[]) (fun D wr=>(Qaf a7 a5 e9 n D=some r)∧Bx wr ac 120 (Zr.cs (Zr.mk e9 n D))∧Kz [(1,ac)] a8 wr) ?_ ?_
   · refine qs 2 rfl<|qm rfl<|qv rfl (Kw (a:=n) (b:=0) rfl rfl)<|Qa<|Zv hm rfl (fun c3 hm=>?_) (fun c3 hm=>?_)
     · refine qg 8 rfl ?_
       have a9:=((((a2.kz s).md G).gr o).md p)
       refine qv rfl (Qu Kf rfl a9 rfl) ?_
       have ba:=((((ax.kz s).md G).gr o).md p)
       refine qv rfl (Qu Qy rfl ba rfl)<|qv rfl (Qg Qgi rfl)<|qv rfl (Ql (v:=.int .i64 e9) Xm rfl H rfl)<|qv rfl (Zk (cs:=Xs.cs (Xs.mk e9 0)) Ek rfl rfl) ?_
       obtain⟨ad,az,hm⟩:=Qd hm
       refine qe rfl (eC Qka rfl (Qjr az)) ?_
       rintro _ b4 ⟨rfl,ae⟩
       have b6:=ae.size
       refine qv rfl (Qg Qcd rfl) ?_
       have bb:=(H.gr ae)
       refine qe rfl (Hv (cs':=Zr.cs (Zr.mk e9 n ad)) (vs:=kb ad) (Qy).siz rfl rfl rfl rfl rfl bb rfl rfl) ?_
       rintro _ b7 ⟨aA,aB⟩
       have b8:=aB.size
       refine Qi ?_
       exact⟨rfl,ad,Qh,hm,aA,((Kz.gr (Kz.refl _ _) ae).md aB)⟩
     refine qg 8 rfl ?_
     have bc:=((((ax.kz s).md G).gr o).md p)
     refine qv rfl (Qu Qy rfl bc rfl)<|qm rfl ?_
     obtain⟨b9,aC,hm⟩:=Qd hm
     refine qe rfl (eC Qfi rfl (Qey aC)) ?_
     rintro _ ca ⟨rfl,af⟩
     have cb:=af.size
     refine qn 2 rfl ?_
     obtain⟨ag,aD,hm⟩:=Qd hm
     refine qe rfl (eC Qfh rfl (Qew aD)) ?_
     rintro _ cc ⟨rfl,ah⟩
     have cd:=ah.size
     refine qv rfl (Qg Qcd rfl) ?_
     have bd:=((H.gr af).gr ah)
     refine qe rfl (Hv (cs':=Zr.cs (Zr.mk e9 n ag)) (vs:=kb ag) (Qy).siz rfl rfl rfl rfl rfl bd rfl rfl) ?_
     rintro _ ce ⟨aE,aF⟩
     have cf:=aF.size
     refine Qi ?_
     exact⟨rfl,ag,Qh,hm,aE,(((Kz.gr (Kz.refl _ _) af).gr ah).md aF)⟩
   clear hm;rintro D cg ⟨hm,y,O⟩
   have ch:=O.size
   have bA:=y.lt
   unfold Qaf at hm
   refine qg 7 rfl<|qv rfl (Qg Uh rfl) ?_
   have aG:=(((u.gr o).md p).kz O)
   refine qv rfl (Ql (v:=vy8) Bs rfl aG rfl)<|qv rfl (Qu Ly rfl y rfl)<|qe rfl (Ko [(Zr.mk e9 n D)] Zr.cs Qox rfl rfl (Ks rfl) rfl rfl rfl) ?_
   rintro bB ci ⟨bC,be,V,P⟩
   have cj:=P.size
   have bD:=V.lth
   have bf:=((((t.gr o).md p (Qm T)).kz O (Qc (Qm (b:=ac) T))).gr P)
   obtain⟨aH,aI,hm⟩:=Qd hm
   refine qe rfl (Wo (l:=a7) (m:=[(Zr.mk e9 n D)]) (c:=Zr.cs) Qj1 rfl rfl bf (Qe.rd V) aI (by decide)) ?_
   rintro X ck ⟨Y,Z,aa,I,bE,J⟩
   have cl:=I.size
   refine qv rfl (Qg Uh rfl) ?_
   have bg:=((aG.gr P).ka I (Qc (Qt (b:=d) i)))
   refine qe rfl (Js (cs':=Xt.cs (Xt.mk p2 aH (Qx.mk 0#64 0#64)) X) (Bs).siz rfl rfl (Qe.oneB aa) bg rfl rfl) ?_
   rintro _ aJ ⟨aK,ai⟩
   have cm:=ai.size
   refine Qi<|Zo ?_
   have bh:=(aa.md ai (Bt J (Qt i)))
   have K_49:Kz [(1,d),(zy8,gy8)] N aJ:=((((((Kz.gr (Kz.refl _ _) o).md p).kz O).gr P).ka I (Qc (Qb:zy8=0∨(gy8=gy8∧zy8≠0)∨N.heap.size≤gy8))).md ai)
   have Kq49:Kp ([d]++zf zy8 gy8) N aJ:=Ir K_49 (by intro k hk;simp only[Jo,and_true,List.mem_cons,List.mem_append,Jc,List.not_mem_nil,or_false,false_or,not_or,ne_eq,List.nil_append,List.cons_append,true_and,and_true,false_and,and_false,not_true_eq_false,not_false_eq_true,or_true,true_or] at hk ⊢;omega)
   subst hnx1
   exact⟨Kq49,([d]++zf Y Z),(by intro c hc;have:=(Yp (A:=(fun x=>(x=gy8∧zy8≠0)∨N.heap.size≤x)) J Qb);simp only[List.mem_cons,List.mem_append,Jc,List.not_mem_nil,or_false,false_or,not_or,ne_eq,List.nil_append,List.cons_append,true_and,and_true,false_and,and_false,not_true_eq_false,not_false_eq_true,or_true,true_or] at hc ⊢;omega),⟨⟨aH,X,Y,Z⟩,hm,rfl,bh,⟨(Yp (A:=(fun x=>F.heap.size≤x)) J (Qk (A:=(fun x=>F.heap.size≤x)) i))⟩,aK,trivial⟩⟩
 · clear hm;rintro K fp aL bi L aM ⟨⟨a7,vy8,zy8,gy8⟩,hm,rfl,j,z,B,-⟩ aN
   replace hm:=Io hm
   have ab:Kz [(1,d),(0,0)] F aL:=Ll aN (by intro k hk;simp only[Jo,and_true,List.mem_cons,List.mem_append,Jc,List.not_mem_nil,or_false,false_or,not_or,ne_eq,List.nil_append,List.cons_append,true_and,and_true,false_and,and_false,not_true_eq_false,not_false_eq_true,or_true,true_or] at hk ⊢;omega)
   have cn:=aN.size
   have bF:=Df.lt (w:=aL) L
   simp only[List.mem_cons,List.mem_append,Jc,List.not_mem_nil,or_false,false_or,not_or,ne_eq,List.nil_append,List.cons_append,true_and,and_true,false_and,and_false,not_true_eq_false,not_false_eq_true,or_true,true_or,not_and] at aM
   have bG:=j.lth
   have bH:=B.lt
   unfold Qae at hm
   try dsimp only at hm
   refine Zo<|Zg<|qs 3 rfl<|qv rfl (Qu Vf rfl B rfl) ?_
   have bj:=(a1.kz ab)
   refine qe rfl (Qr Vf rfl rfl (Xt.cs_ones _ _ (Qe.oneB j)) bj rfl rfl) ?_
   rintro _ aO ⟨aP,Q⟩
   have co:=Q.size
   refine qm rfl<|Qa<|Qs ?_
   have DL69:=(Df.md L Q)
   have R:=Md.put (w:=aO) K (.deferred none)
   have zL69:=R.size
   have bk:=(aP.md R)
   have bl:=((j.md Q (Qt z)).md R)
   have bm:Gr w (aO.putObj K (.deferred none)):=(((aw.kz ab).md Q).md R)
   cases hm
   refine⟨_,_,⟨K,rfl,DL69,rfl⟩,Xy rfl (Zf Vf rfl bk rfl) (Qn rfl),?_⟩
   exact⟨vy8,zy8,gy8,rfl,bl,⟨(Qk (A:=(fun x=>w.heap.size≤x)) z)⟩,bm⟩
 rintro _ _ _ _ _ _ _ _ _ h _
 exact h.elim
theorem Qpb {p0 p1 bp1 r}(hm:Qeu p0 p1=some r){w:World}(hbp1:Bx w bp1 277 (Xv.cs p1)):
 Calls Tryz.prog 208 [.agg (Zc.cs p0).toArray,.pointer (some ⟨bp1,0,none⟩)].toArray w fun e w'=>∃ v,e=.returned v∧(v=.bool r∧Gr w w'):=by
 have d:=hbp1.lt
 unfold Qeu at hm
 refine Xu 9 Tryz.func208 rfl rfl rfl<|qs 2 rfl<|qe rfl (Xp (cs:=Zc.cs p0) rfl rfl) ?_
 rintro _ w1 ⟨b1,rfl,c,a,G1⟩
 have z2:=G1.size
 have f:=a.lt
 refine qm rfl<|qd 6 rfl ?_
 have B4:=(hbp1.gr G1)
 refine qv rfl (Qu Kf rfl B4 rfl)<|qv rfl (Qg Sv rfl)<|qv rfl (Jm (vs:=Xs.cs p0.Subset) Pc rfl a rfl rfl) ?_
 obtain⟨x1,b,hm⟩:=Qd hm
 refine qe rfl (eC Qfj rfl (Qf8 b)) ?_
 rintro _ w2 ⟨rfl,G2⟩
 have z5:=G2.size
 refine qv rfl (Jj rfl)<|qm rfl<|Qa<|Qs ?_
 have X6:=(((Gr.refl w).trans G1).trans G2)
 cases hm
 exact⟨_,_,rfl,Xj rfl (Qn rfl),rfl,X6⟩
theorem Qv9 {p0 d vp0 zp0 gp0 op0 bp1_0 r}(hm:Qig p0 d=some r){w:World}(f:Rd w zp0 gp0 op0 18 vp0 (p0.map Zc.cs))(hbp1_0:Bx w bp1_0 277 (Xv.cs d)):
 Calls Tryz.prog 202 [vp0,.func (.func 208) [].toArray [.pointer (some ⟨bp1_0,0,none⟩)].toArray].toArray w fun e w'=>∃ v,e=.returned v∧(v=.int .i64 r∧Gr w w'):=by
 have n:=f.lth
 have o:=hbp1_0.lt
 unfold Qig at hm
 refine Xu 19 Tryz.func202 rfl rfl rfl<|qs 1 rfl<|qm rfl<|Qa<|Qj<|Qj ?_
 refine qg 3 rfl<|qm rfl<|qv rfl (Zx (l:=p0) (c:=Zc.cs) Tryz.underlying50 rfl f)<|qm rfl<|Qa<|Xz<|Kb (α:=Nat × Int) ([4,5]++rg 8 11) (fun⟨n1,a2⟩=>[(4,.int .i64 0),(8,.int .i64 a2)]) (fun⟨n1,a2⟩ wr=>(Xq (Qdu p0 d) n1 a2=some r)∧Kz [] w wr) (fun⟨n1,a2⟩=>n1) ⟨Ze,0⟩ ?_ ?_ ?_
 · exact Qh
 · exact⟨hm,Kz.refl _ _⟩
 clear hm;rintro⟨n1,a2⟩ w1 ⟨hm,K1⟩
 have z3:=K1.size
 have hb:=Kd hm;clear hm;obtain⟨n1,rfl,hm⟩:=hb
 generalize g:Xq (Qdu p0 d) n1=m at hm
 unfold Qdu at hm
 try dsimp only at hm
 refine qs 1 rfl<|qv rfl (Jb (a:=a2) (b:=(p0.length:Int)) rfl rfl)<|Qa<|Qj<|Kg hm rfl (fun c1 hm=>?_) (fun c1 hm=>?_)
 · refine Jl<|Zd<|Zd<|Jk<|Zg<|qs 1 rfl ?_
   refine qm rfl<|Qa<|Qs ?_
   have X9:=((Gr.refl w).kz K1)
   cases hm
   exact⟨_,_,rfl,Xj rfl (Qn rfl),rfl,X9⟩
 refine qu<|Qj<|Xz<|qs 2 rfl<|qm rfl ?_
 refine qm rfl<|qd 6 rfl<|qn 3 rfl ?_
 obtain⟨y3,h,hm⟩:=Qd hm
 have B4:=(f.kz K1)
 refine qv rfl (Vm (i:=a2) Tryz.underlying50 (Wl).siz rfl B4 rfl h)<|qv rfl (He Wl rfl B4 h (by first|rfl|omega)) ?_
 have B5:=(hbp1_0.kz K1)
 obtain⟨x4,j,hm⟩:=Qd hm
 refine qe rfl (Vk Qqe rfl rfl (Qpb j B5)) ?_
 rintro _ w2 ⟨rfl,G2⟩
 have z6:=G2.size
 refine Qa<|Zw hm rfl (fun c2 hm=>?_) (fun c2 hm=>?_)
 · refine qs 2 rfl<|qn 2 rfl<|Qa<|Qs<|Je ?_
   refine Zb<|Zb<|Je<|Zb ?_
   have X7:=(((Gr.refl w).kz K1).trans G2)
   cases hm
   exact⟨_,_,rfl,Xj rfl (Qn rfl),rfl,X7⟩
 refine Vl<|Zo<|Zg<|qg 2 rfl<|qv rfl (Zy (k:=.i64) (a:=a2) (b:=1) rfl rfl)<|qm rfl<|Qi ?_
 have K_8:Kz [] w w2:=(K1.gr G2)
 subst g
 exact⟨rfl,⟨n1,Qp (a2+1)⟩,Qh,⟨hm,K_8⟩,Nat.lt_succ_self _⟩
theorem Qv5 {p0 c vp0 zp0 gp0 op0 bp1_0 r}(hm:Qic p0 c=some r){w:World}(d:Rd w zp0 gp0 op0 18 vp0 (p0.map Zc.cs))(hbp1_0:Bx w bp1_0 277 (Xv.cs c)):
 Calls Tryz.prog 113 [vp0,.func (.func 208) [].toArray [.pointer (some ⟨bp1_0,0,none⟩)].toArray].toArray w fun e w'=>∃ v,e=.returned v∧(v=.bool r∧Gr w w'):=by
 have g:=d.lth
 have h:=hbp1_0.lt
 unfold Qic at hm
 refine Xu 9 Tryz.func113 rfl rfl rfl<|qs 1 rfl<|qm rfl<|qd 5 rfl ?_
 refine qn 2 rfl ?_
 obtain⟨x1,f,hm⟩:=Qd hm
 refine qe rfl (eC Qk7 rfl (Qv9 f d hbp1_0)) ?_
 rintro _ w1 ⟨rfl,G1⟩
 have z3:=G1.size
 refine qv rfl (Vd (a:=x1) (b:=0) rfl rfl)<|qm rfl<|Qa<|Qs ?_
 have X4:=((Gr.refl w).trans G1)
 cases hm
 exact⟨_,_,rfl,Xj rfl (Qn rfl),rfl,X4⟩
theorem Qpj {p0 p1 p2 r}(hm:Qf5 p0 p1 p2=some r){w:World}:
 Calls Tryz.prog 294 [.agg (Xv.cs p0).toArray,.agg (Zr.cs p1).toArray,.agg (Xs.cs p2).toArray].toArray w fun e w'=>∃ v,e=.returned v∧(v=.bool r∧Gr w w'):=by
 unfold Qf5 at hm
 refine Xu 38 Tryz.func294 rfl rfl rfl<|qs 4 rfl<|qe rfl (Xp (cs:=Xv.cs p0) rfl rfl) ?_
 rintro _ w1 ⟨b1,rfl,t,d,G1⟩
 have z1:=G1.size
 have y:=d.lt
 refine qe rfl (Xp (cs:=Zr.cs p1) rfl rfl) ?_
 rintro _ w2 ⟨b2,rfl,u,f,G2⟩
 have z3:=G2.size
 have z:=f.lt
 refine qe rfl (Xp (cs:=Xs.cs p2) rfl rfl) ?_
 rintro _ w3 ⟨b3,rfl,x,c,G3⟩
 have z5:=G3.size
 have A:=c.lt
 refine qm rfl<|Qa<|Qj<|qs 5 rfl<|qv rfl (Qg Qgi rfl) ?_
 have B7:=(f.gr G3)
 refine qv rfl (Ql (v:=.int .i64 p1.Node) Xm rfl B7 rfl)<|qv rfl (Qg Bg rfl)<|qv rfl (Ql (v:=.int .i64 p2.Node) Xm rfl c rfl)<|qv rfl (Zp (a:=p1.Node) (b:=p2.Node) rfl rfl)<|Qa<|Zv hm rfl (fun c1 hm=>?_) (fun c1 hm=>?_)
 · refine qs 1 rfl<|qm rfl<|qb ?_
   have X8:=((((Gr.refl w).trans G1).trans G2).trans G3)
   cases hm
   exact⟨_,_,rfl,Xj rfl (Qn rfl),rfl,X8⟩
 refine qu<|Qj ?_
 have X9:=((((Gr.refl w).trans G1).trans G2).trans G3)
 refine qj (β:=Bool) (rg 13 8) (fun a1=>[(20,.bool a1)]) (fun a1 wr=>(Qax p1 p2 a1=some r)∧Kz [] w3 wr) ?_ ?_
 · refine qg 8 rfl<|qv rfl (Qg Nz rfl) ?_
   have h:=((d.gr G2).gr G3)
   refine qv rfl (Ql (v:=bv p0.kind) Zj rfl h rfl)<|qv rfl (Pb (p:=p0.kind) (q:=1#8) rfl rfl)<|Zm hm rfl (Qw rfl) (fun c4 hm=>?_) (fun c4 hm=>?_)
   · refine qn 4 rfl<|Qi ?_
     exact⟨rfl,true,Qh,hm,Xi⟩
   refine qv rfl (Qg Tw rfl)<|qv rfl (Ql (v:=.int .i64 p2.Minus) Xm rfl c rfl)<|qv rfl (Kw (a:=p2.Minus) (b:=0) rfl rfl)<|qm rfl<|Qi ?_
   exact⟨rfl,(decide (p2.Minus=0)),Qh,hm,Xi⟩
 clear hm;rintro a1 w4 ⟨hm,K4⟩
 have B:=K4.size
 unfold Qax at hm
 refine Zw hm rfl (fun c2 hm=>?_) (fun c2 hm=>?_)
 · refine qs 6 rfl<|qv rfl (Qg Qgj rfl) ?_
   have i:=(B7.kz K4)
   refine qv rfl (Ql (v:=.int .i64 p1.Minus) Xm rfl i rfl)<|qv rfl (Qg Tw rfl) ?_
   have j:=(c.kz K4)
   refine qv rfl (Ql (v:=.int .i64 p2.Minus) Xm rfl j rfl)<|qv rfl (Kw (a:=p1.Minus) (b:=p2.Minus) rfl rfl)<|qm rfl<|qb ?_
   have k:=(X9.kz K4)
   cases hm
   exact⟨_,_,rfl,Xj rfl (Qn rfl),rfl,k⟩
 refine qu<|qs 3 rfl<|qv rfl (Qg Qgj rfl) ?_
 have g:=(B7.kz K4)
 refine qv rfl (Ql (v:=.int .i64 p1.Minus) Xm rfl g rfl)<|qm rfl<|qd 11 rfl<|qm rfl<|qv rfl (Qg Qgi rfl) ?_
 refine qv rfl (Ql (v:=.int .i64 p1.Node) Xm rfl g rfl) ?_
 obtain⟨x2,l,hm⟩:=Qd hm
 refine qe rfl (eC Qfo rfl (Qez l)) ?_
 rintro _ w5 ⟨rfl,G5⟩
 have C:=G5.size
 refine Bz hm rfl (Qw rfl) (fun c3 hm=>?_) (fun c3 hm=>?_)
 · refine qn 6 rfl<|Qa ?_
   refine Qs ?_
   have m:=((X9.kz K4).trans G5)
   cases hm
   exact⟨_,_,rfl,Xj rfl (Qn rfl),rfl,m⟩
 refine qv rfl (Qg Tw rfl) ?_
 have n:=((c.kz K4).gr G5)
 refine qv rfl (Ql (v:=.int .i64 p2.Minus) Xm rfl n rfl)<|qm rfl ?_
 obtain⟨x3,o,hm⟩:=Qd hm
 refine qe rfl (eC Qfo rfl (Qez o)) ?_
 rintro _ w6 ⟨rfl,G6⟩
 have D:=G6.size
 refine qn 2 rfl<|Qa<|Qs ?_
 have s:=(((X9.kz K4).trans G5).trans G6)
 cases hm
 exact⟨_,_,rfl,Xj rfl (Qn rfl),rfl,s⟩
theorem Qpg {p0 p1 p2 vp1_1 zp1_1 gp1_1 op1_1 r}(hm:Qf2 p0 p1 p2=some r){w:World}(d:Rd w zp1_1 gp1_1 op1_1 18 vp1_1 (p1.Labels.map Zr.cs)):
 Calls Tryz.prog 210 [.agg (Xv.cs p0).toArray,.agg (Xt.cs p1 vp1_1).toArray,.agg (Xs.cs p2).toArray].toArray w fun e w'=>∃ v,e=.returned v∧(v=.tuple [kv r.1,.bool r.2].toArray∧Gr w w'):=by
 have af:=d.lth
 unfold Qf2 at hm
 refine Xu 44 Tryz.func210 rfl rfl rfl<|qs 5 rfl<|qe rfl (Xp (cs:=Xv.cs p0) rfl rfl) ?_
 rintro _ w1 ⟨b1,rfl,Y,o,G1⟩
 have z2:=G1.size
 have ag:=o.lt
 refine qe rfl (Xp (cs:=Xt.cs p1 vp1_1) rfl rfl) ?_
 rintro _ w2 ⟨b2,rfl,Z,s,G2⟩
 have z4:=G2.size
 have ah:=s.lt
 refine qe rfl (Xp (cs:=Xs.cs p2) rfl rfl) ?_
 rintro _ w3 ⟨b3,rfl,aa,t,G3⟩
 have z6:=G3.size
 have ai:=t.lt
 refine qe rfl (Qz (cs:=kb k0) Jq rfl) ?_
 rintro _ w4 ⟨b4,rfl,ab,f,G4⟩
 have z8:=G4.size
 have aj:=f.lt
 refine qm rfl<|Qa<|Qj<|qs 4 rfl<|qv rfl (Qg Uh rfl) ?_
 have Y1:=Gr.trans G3 G4
 have K:=(s.gr Y1)
 refine qv rfl (Ql (v:=vp1_1) Bs rfl K rfl) ?_
 have u:=(((d.gr G1).gr G2).gr Y1)
 refine qv rfl (Zx (l:=p1.Labels) (c:=Zr.cs) Tryz.underlying63 rfl u)<|qm rfl<|Qa<|Xz ?_
 have x:=((((Gr.refl w).trans G1).trans G2).trans Y1)
 refine Kb (α:=Nat × Int) ([7,9]++rg 13 30) (fun⟨n1,a2⟩=>[(7,.bool false),(13,.int .i64 a2)]) (fun⟨n1,a2⟩ wr=>(Xq (Qar p0 p1 p2) n1 a2=some r)∧Kz [] w4 wr) (fun⟨n1,a2⟩=>n1) ⟨Ze,0⟩ ?_ ?_ ?_
 · exact Qh
 · exact⟨hm,Kz.refl _ _⟩
 clear hm;rintro⟨n1,a2⟩ w5 ⟨hm,K5⟩
 have ak:=K5.size
 have hb:=Kd hm;clear hm;obtain⟨n1,rfl,hm⟩:=hb
 generalize g:Xq (Qar p0 p1 p2) n1=ac at hm
 unfold Qar at hm
 try dsimp only at hm
 refine qs 1 rfl<|qv rfl (Jb (a:=a2) (b:=(p1.Labels.length:Int)) rfl rfl)<|Qa<|Qj<|Kg hm rfl (fun c1 hm=>?_) (fun c1 hm=>?_)
 · refine Jl<|Zd<|Zd<|Jk<|Zg<|qs 3 rfl ?_
   refine qv rfl (Ho Hh) ?_
   have L:=(f.kz K5)
   refine qe rfl (Qr Qy rfl rfl rfl L rfl rfl) ?_
   rintro _ al ⟨y,z⟩
   have am:=z.size
   refine qm rfl<|Qa<|Qs ?_
   have M:=((x.kz K5).md z)
   cases hm
   exact⟨_,_,rfl,Xy rfl (Zf Qy rfl y rfl) (Qn rfl),rfl,M⟩
 refine qu<|Qj<|Xz<|qs 4 rfl ?_
 obtain⟨y3,A,hm⟩:=Qd hm
 have B:=(u.kz K5)
 refine qv rfl (Vm (i:=a2) Tryz.underlying63 (Ly).siz rfl B rfl A)<|qv rfl (He Ly rfl B A (by first|rfl|omega))<|qe rfl (Qz (cs:=Zr.cs (Zr.mk 0 0 k0)) Qeb rfl) ?_
 rintro _ w6 ⟨b6,rfl,ad,C,G6⟩
 have an:=G6.size
 have ae:=C.lt
 refine qe rfl (Qr Ly rfl rfl rfl C rfl rfl) ?_
 rintro _ w7 ⟨h,M7⟩
 have ao:=M7.size
 refine Qa<|Qj<|Xz<|qs 6 rfl ?_
 have D:=(((((o.gr G2).gr Y1).kz K5).gr G6).md M7)
 refine qv rfl (Qu Kf rfl D rfl)<|qv rfl (Qu Ly rfl h rfl) ?_
 have j:=((((t.gr G4).kz K5).gr G6).md M7)
 refine qv rfl (Qu Pc rfl j rfl) ?_
 obtain⟨x4,N,hm⟩:=Qd hm
 refine qe rfl (eC Qqo rfl (Qpj N)) ?_
 rintro _ w8 ⟨rfl,G8⟩
 have ap:=G8.size
 refine qv rfl (Jj rfl)<|qm rfl<|Qa<|Zw hm rfl (fun c2 hm=>?_) (fun c2 hm=>?_)
 · refine Jl<|Qj5 rfl<|Zd<|Jk<|Zg<|qg 2 rfl<|qv rfl (Zy (k:=.i64) (a:=a2) (b:=1) rfl rfl) ?_
   refine qm rfl<|Qi ?_
   have K_21:Kz [] w4 w8:=(((K5.gr G6).md M7).gr G8)
   subst g
   exact⟨rfl,⟨n1,Qp (a2+1)⟩,Qh,⟨hm,K_21⟩,Nat.lt_succ_self _⟩
 have E:=((((x.kz K5).trans G6).md M7).trans G8)
 refine qj (β:=Bool) (rg 23 9) (fun a5=>[(23,.bool a5)]) (fun a5 wr=>(Qaq p2 y3 a5=some r)∧Kz [] w8 wr) ?_ ?_
 · refine qg 9 rfl<|qv rfl (Qg Nz rfl) ?_
   have O:=(D.gr G8)
   refine qv rfl (Ql (v:=bv p0.kind) Zj rfl O rfl)<|qv rfl (Pb (p:=p0.kind) (q:=1#8) rfl rfl)<|Zm hm rfl (Qw rfl) (fun c4 hm=>?_) (fun c4 hm=>?_)
   · refine qn 5 rfl<|Qi ?_
     exact⟨rfl,true,Qh,hm,Xi⟩
   refine qv rfl (Qg Tw rfl) ?_
   have P:=(j.gr G8)
   refine qv rfl (Ql (v:=.int .i64 p2.Minus) Xm rfl P rfl)<|qv rfl (Kw (a:=p2.Minus) (b:=0) rfl rfl)<|qn 2 rfl<|Qi ?_
   exact⟨rfl,(decide (p2.Minus=0)),Qh,hm,Xi⟩
 clear hm;rintro a5 w9 ⟨hm,K9⟩
 have aq:=K9.size
 unfold Qaq at hm
 refine Zw hm rfl (fun c3 hm=>?_) (fun c3 hm=>?_)
 · refine qs 4 rfl<|qv rfl (Qg Qcd rfl) ?_
   have Q:=((h.gr G8).kz K9)
   refine qv rfl (Jm (vs:=kb y3.Key) Qy rfl Q rfl rfl) ?_
   have R:=(((((f.kz K5).gr G6).md M7).gr G8).kz K9)
   refine qe rfl (Qr Qy rfl rfl rfl R rfl rfl) ?_
   rintro _ ar ⟨F,G⟩
   have au:=G.size
   refine qm rfl<|Qa<|Qs<|Je<|Zb<|Je<|Zb ?_
   refine Zb<|Je<|Zb ?_
   have S:=((E.kz K9).md G)
   cases hm
   exact⟨_,_,rfl,Xy rfl (Zf Qy rfl F rfl) (Qn rfl),rfl,S⟩
 refine Vl<|Zo<|Zg<|qs 10 rfl<|qv rfl (Qg Qcd rfl) ?_
 have H:=((h.gr G8).kz K9)
 refine qv rfl (Jm (vs:=kb y3.Key) Qy rfl H rfl rfl)<|qv rfl (Qg Qgj rfl)<|qv rfl (Ql (v:=.int .i64 y3.Minus) Xm rfl H rfl)<|qv rfl (Qg Tw rfl) ?_
 have T:=((j.gr G8).kz K9)
 refine qv rfl (Ql (v:=.int .i64 p2.Minus) Xm rfl T rfl) ?_
 obtain⟨x6,U,hm⟩:=Qd hm
 refine qe rfl (eC Qfh rfl (Qew U)) ?_
 rintro _ av ⟨rfl,m⟩
 have aw:=m.size
 obtain⟨x7,V,hm⟩:=Qd hm
 refine qe rfl (eC Qki rfl (Qjn V)) ?_
 rintro _ ax ⟨rfl,n⟩
 have ay:=n.size
 have W:=(((((((f.kz K5).gr G6).md M7).gr G8).kz K9).gr m).gr n)
 refine qe rfl (Qr Qy rfl rfl rfl W rfl rfl) ?_
 rintro _ az ⟨I,J⟩
 have aA:=J.size
 refine qm rfl<|Qa<|Qs<|Je<|Zb<|Zb<|Je ?_
 refine Zb ?_
 have X:=((((E.kz K9).trans m).trans n).md J)
 cases hm
 exact⟨_,_,rfl,Xy rfl (Zf Qy rfl I rfl) (Qn rfl),rfl,X⟩
theorem Qpc {p0 p1 p2 vp1_1 zp1_1 gp1_1 op1_1 vp2_0 zp2_0 gp2_0 op2_0 vp2_2 zp2_2 gp2_2 op2_2 r}(hm:Qet p0 p1 p2=some r){w:World}(q:Rd w zp1_1 gp1_1 op1_1 18 vp1_1 (p1.Labels.map Zr.cs))(m:Rd w zp2_0 gp2_0 op2_0 18 vp2_0 (p2.Items.map Zc.cs))(n:Rd w zp2_2 gp2_2 op2_2 2 vp2_2 (p2.Points.map Qx.cs)):
 Calls Tryz.prog 118 [.agg (Xn.cs p0).toArray,.agg (Xt.cs p1 vp1_1).toArray,.agg (Qq.cs p2 vp2_0 vp2_2).toArray].toArray w fun e w'=>∃ v,e=.returned v∧(v=.tuple [kv r.1,.int .i64 r.2].toArray∧Gr w w'):=by
 have I:=q.lth
 have J:=m.lth
 have K:=n.lth
 unfold Qet at hm
 refine Xu 82 Tryz.func118 rfl rfl rfl<|qs 5 rfl<|qe rfl (Xp (cs:=Xn.cs p0) rfl rfl) ?_
 rintro _ w1 ⟨b1,rfl,aO,L,G1⟩
 have z4:=G1.size
 have a0:=L.lt
 refine qe rfl (Xp (cs:=Xt.cs p1 vp1_1) rfl rfl) ?_
 rintro _ w2 ⟨b2,rfl,aP,M,G2⟩
 have z6:=G2.size
 have a1:=M.lt
 refine qe rfl (Xp (cs:=Qq.cs p2 vp2_0 vp2_2) rfl rfl) ?_
 rintro _ w3 ⟨b3,rfl,aQ,F,G3⟩
 have z8:=G3.size
 have a3:=F.lt
 refine qe rfl (Qz (cs:=kb k0) Jq rfl) ?_
 rintro _ w4 ⟨b4,rfl,aR,s,G4⟩
 have a5:=G4.size
 have aS:=s.lt
 refine qm rfl<|qd 8 rfl ?_
 have Y1:=Gr.trans (Gr.trans G2 G3) G4
 have ai:=(L.gr Y1)
 refine qv rfl (Qu Jr rfl ai rfl) ?_
 obtain⟨x1,aj,hm⟩:=Qd hm
 refine qe rfl (eC Qb3 rfl (Qal aj (Qe.rd (Za _ 0 193 2)))) ?_
 rintro _ w5 ⟨rfl,G5⟩
 have a6:=G5.size
 refine qn 3 rfl<|qe rfl (Qz (cs:=Xv.cs (Xv.mk 0#8 0 0)) Nl rfl) ?_
 rintro _ w6 ⟨b6,rfl,aT,N,G6⟩
 have a7:=G6.size
 have aU:=N.lt
 refine qe rfl (Qr Kf rfl rfl rfl N rfl rfl) ?_
 rintro _ w7 ⟨O,M7⟩
 have a8:=M7.size
 refine qm rfl<|Qa<|Qj<|qs 2 rfl<|qm rfl<|qv rfl (Zp (a:=x1.2) (b:=0) rfl rfl) ?_
 refine Qa<|Zv hm rfl (fun c1 hm=>?_) (fun c1 hm=>?_)
 · refine qs 4 rfl<|qv rfl (Ho Hh)<|qm rfl ?_
   have Y2:=Gr.trans G5 G6
   have ak:=((s.gr Y2).md M7)
   refine qe rfl (Qr Qy rfl rfl rfl ak rfl rfl) ?_
   rintro _ w8 ⟨al,M8⟩
   have a9:=M8.size
   refine qm rfl<|qb ?_
   have Y3:=Gr.trans (Gr.trans G1 Y1) Y2
   have am:=((((Gr.refl w).trans Y3).md M7).md M8)
   cases hm
   exact⟨_,_,rfl,Xy rfl (Zf Qy rfl al rfl) (Qn rfl),rfl,am⟩
 refine qu<|qs 2 rfl<|qv rfl (Da rfl rfl)<|qm rfl<|Qa ?_
 refine Qj ?_
 have Y4:=Gr.trans (Gr.trans (Gr.trans G1 Y1) G5) G6
 have P:=(((Gr.refl w).trans Y4).md M7)
 refine qj (β:=Bool) (rg 26 27) (fun a2=>[(52,.bool a2)]) (fun a2 wr=>(Rj p1 p2 x1 a2=some r)∧Kz [] w7 wr) ?_ ?_
 · refine qg 27 rfl<|qv rfl (Qg Wq rfl) ?_
   have Y5:=Gr.trans (Gr.trans G4 G5) G6
   have t:=((F.gr Y5).md M7)
   refine qv rfl (Ql (v:=vp2_0) Wh rfl t rfl) ?_
   have Q:=((m.gr Y4).md M7 (Qm J))
   refine qv rfl (Zx (l:=p2.Items) (c:=Zc.cs) Tryz.underlying50 rfl Q)<|qv rfl (Ve (a:=(p2.Items.length:Int)) (b:=64) rfl rfl)<|Zm hm rfl (Qw rfl) (fun c6 hm=>?_) (fun c6 hm=>?_)
   · refine qn 7 rfl ?_
     refine qn 7 rfl ?_
     refine qn 7 rfl ?_
     refine qm rfl<|Qi ?_
     exact⟨rfl,true,Qh,hm,Xi⟩
   refine qv rfl (Qg Gb rfl)<|qv rfl (Ql (v:=wv p2.Base) Zh rfl t rfl)<|qv rfl (Qe2 (c:=p2.Base) (d:=0#64) rfl rfl)<|qm rfl<|Zm hm rfl (Qw rfl) (fun c7 hm=>?_) (fun c7 hm=>?_)
   · refine qn 7 rfl ?_
     refine qn 7 rfl ?_
     refine qn 3 rfl<|Qi ?_
     exact⟨rfl,true,Qh,hm,Xi⟩
   refine qv rfl (Qg Yk rfl)<|qv rfl (Ql (v:=vp2_2) Yi rfl t rfl) ?_
   have an:=((n.gr Y4).md M7 (Qm K))
   refine qv rfl (Zx (l:=p2.Points) (c:=Qx.cs) Tryz.underlying51 rfl an)<|qv rfl (Ve (a:=(p2.Points.length:Int)) (b:=0) rfl rfl)<|qm rfl<|Zm hm rfl (Qw rfl) (fun c8 hm=>?_) (fun c8 hm=>?_)
   · refine qn 7 rfl ?_
     refine qn 4 rfl<|Qi ?_
     exact⟨rfl,true,Qh,hm,Xi⟩
   refine qv rfl (Qg Gc rfl)<|qv rfl (Jm (vs:=kb p2.Box) Qy rfl t rfl rfl)<|qv rfl (Ho Hh)<|qv rfl (Gj (cf:=kb) (a:=p2.Box) (b:=k0) Gx rfl rfl rfl rfl (fun h=>Dh h))<|qm rfl<|Zm hm rfl (Qw rfl) (fun c9 hm=>?_) (fun c9 hm=>?_)
   · refine qn 5 rfl<|Qi ?_
     exact⟨rfl,true,Qh,hm,Xi⟩
   refine qv rfl (Qg Wq rfl)<|qv rfl (Ql (v:=vp2_0) Wh rfl t rfl)<|qm rfl ?_
   obtain⟨x7,ao,hm⟩:=Qd hm
   refine qe rfl (eC Qk3 rfl (Qv5 ao Q O)) ?_
   rintro _ ba ⟨rfl,R⟩
   have bb:=R.size
   refine qm rfl<|Qi ?_
   exact⟨rfl,x7,Qh,hm,(Xi.gr R)⟩
 clear hm;rintro a2 w9 ⟨hm,K9⟩
 have bc:=K9.size
 unfold Rj at hm
 refine Zw hm rfl (fun c2 hm=>?_) (fun c2 hm=>?_)
 · refine qs 3 rfl<|qv rfl (Ho Hh) ?_
   have Y6:=Gr.trans G5 G6
   have ap:=(((s.gr Y6).md M7).kz K9)
   refine qe rfl (Qr Qy rfl rfl rfl ap rfl rfl) ?_
   rintro _ bd ⟨S,T⟩
   have be:=T.size
   refine qm rfl<|qb ?_
   have aq:=((P.kz K9).md T)
   cases hm
   exact⟨_,_,rfl,Xy rfl (Zf Qy rfl S rfl) (Qn rfl),rfl,aq⟩
 refine qu<|Qj<|qs 4 rfl<|qv rfl (Qg Wq rfl) ?_
 have Y7:=Gr.trans (Gr.trans G4 G5) G6
 have U:=(((F.gr Y7).md M7).kz K9)
 refine qv rfl (Ql (v:=vp2_0) Wh rfl U rfl) ?_
 have V:=(((m.gr Y4).md M7 (Qm J)).kz K9)
 refine qv rfl (Zx (l:=p2.Items) (c:=Zc.cs) Tryz.underlying50 rfl V)<|qm rfl<|Qa<|Xz ?_
 have W:=(P.kz K9)
 have ar:=(((q.gr Y4).md M7 (Qm I)).kz K9)
 have bf:=(((n.gr Y4).md M7 (Qm K)).kz K9)
 refine Kb (α:=Nat × Int) ([7,12,13,14,15]++rg 57 24) (fun⟨n2,a4⟩=>[(7,.int .i64 0),(57,.int .i64 a4)]) (fun⟨n2,a4⟩ wr=>(Xq (Qac p1 p2 x1) n2 a4=some r)∧Kz [] w9 wr) (fun⟨n2,a4⟩=>n2) ⟨Ze,0⟩ ?_ ?_ ?_
 · exact Qh
 · exact⟨hm,Kz.refl _ _⟩
 clear hm;rintro⟨n2,a4⟩ bg ⟨hm,f⟩
 have bh:=f.size
 have hb:=Kd hm;clear hm;obtain⟨n2,rfl,hm⟩:=hb
 generalize u:Xq (Qac p1 p2 x1) n2=aV at hm
 unfold Qac at hm
 try dsimp only at hm
 refine qs 1 rfl<|qv rfl (Jb (a:=a4) (b:=(p2.Items.length:Int)) rfl rfl)<|Qa<|Qj<|Kg hm rfl (fun c3 hm=>?_) (fun c3 hm=>?_)
 · refine Jl<|Zd<|Zd<|Jk<|Zg<|qs 3 rfl ?_
   refine qv rfl (Ho Hh) ?_
   have Y8:=Gr.trans G5 G6
   have au:=((((s.gr Y8).md M7).kz K9).kz f)
   refine qe rfl (Qr Qy rfl rfl rfl au rfl rfl) ?_
   rintro _ bi ⟨X,Y⟩
   have bj:=Y.size
   refine qm rfl<|Qa<|Qs ?_
   have av:=((W.kz f).md Y)
   cases hm
   exact⟨_,_,rfl,Xy rfl (Zf Qy rfl X rfl) (Qn rfl),rfl,av⟩
 refine qu<|Qj<|Xz<|qs 4 rfl ?_
 obtain⟨y5,Z,hm⟩:=Qd hm
 have aa:=(V.kz f)
 refine qv rfl (Vm (i:=a4) Tryz.underlying50 (Wl).siz rfl aa rfl Z)<|qv rfl (He Wl rfl aa Z (by first|rfl|omega))<|qe rfl (Qz (cs:=Zc.cs (Zc.mk (Xs.mk 0 0) k0)) Ou rfl) ?_
 rintro _ bk ⟨bl,rfl,aw,B,g⟩
 have bm:=g.size
 have aW:=B.lt
 refine qe rfl (Qr Wl rfl rfl rfl B rfl rfl) ?_
 rintro _ bn ⟨C,j⟩
 have bo:=j.size
 refine qd 11 rfl ?_
 have ax:=((((O.kz K9).kz f).gr g).md j)
 refine qv rfl (Qu Kf rfl ax rfl) ?_
 have Y9:=Gr.trans G3 Y7
 have ay:=((((((M.gr Y9).md M7).kz K9).kz f).gr g).md j)
 refine qv rfl (Qu Vf rfl ay rfl)<|qv rfl (Qg Sv rfl)<|qv rfl (Jm (vs:=Xs.cs y5.Subset) Pc rfl C rfl rfl) ?_
 have az:=(((ar.kz f).gr g).md j (Qm I))
 obtain⟨x6,aA,hm⟩:=Qd hm
 refine qe rfl (eC Qqg rfl (Qpg aA az)) ?_
 rintro _ bp ⟨rfl,G⟩
 have bq:=G.size
 refine qn 3 rfl<|qe rfl (Qz (cs:=kb k0) Jq rfl) ?_
 rintro _ br ⟨bs,rfl,aB,D,H⟩
 have bu:=H.size
 have aX:=D.lt
 refine qe rfl (Qr Qy rfl rfl rfl D rfl rfl) ?_
 rintro _ aC ⟨ab,o⟩
 have bw:=o.size
 refine qm rfl<|qd 1 rfl<|qm rfl<|Qa<|Nt hm rfl (fun c4 hm=>?_) (fun c4 hm=>?_)
 · refine Vl<|Zo<|Zg<|qg 2 rfl<|qv rfl (Zy (k:=.i64) (a:=a4) (b:=1) rfl rfl)<|qm rfl<|Qi ?_
   have aD:=Gr.trans G H
   have K_56:Kz [] w9 aC:=((((f.gr g).md j).gr aD).md o)
   subst u
   exact⟨rfl,⟨n2,Qp (a4+1)⟩,Qh,⟨hm,K_56⟩,Nat.lt_succ_self _⟩
 refine qs 6 rfl<|qv rfl (Qu Qy rfl ab rfl)<|qv rfl (Qg Qlk rfl) ?_
 have x:=Gr.trans G H
 have aE:=((C.gr x).md o)
 refine qv rfl (Jm (vs:=kb y5.Box) Qy rfl aE rfl rfl)<|qe rfl (eC Qb4 rfl (Qb1 x6.1 y5.Box _)) ?_
 rintro _ bx ⟨rfl,ac⟩
 have bz:=ac.size
 refine qe rfl (Qz (cs:=kb k0) Jq rfl) ?_
 rintro _ bA ⟨bB,rfl,aF,E,ad⟩
 have bC:=ad.size
 have aY:=E.lt
 refine qe rfl (Qr Qy rfl rfl rfl E rfl rfl) ?_
 rintro _ bD ⟨ae,y⟩
 have bE:=y.size
 refine Qa<|Qj<|dw [([])] [] (.leaf [(0,10),(2,10),(3,10),(1,0),(4,10)]) ?_
 intro aG z aZ
 refine Xo ?_
 have af:=(ae.gr z)
 refine dh 0 rfl rfl (fun w hS=>Qu Qy rfl (Bx.kp af hS) rfl)<|dh 0 rfl rfl (fun w hS=>Qg Gz rfl) ?_
 have A:=Gr.trans ac ad
 have aH:=((((((((U.kz f).gr g).md j).gr x).md o).gr A).md y).gr z)
 refine dh 0 rfl rfl (fun w hS=>Jm (vs:=kb p2.Check) Qy rfl (Bx.kp aH hS) rfl rfl)<|qz [] rfl (eC Wn rfl (Wm (Nx x6.1 y5.Box) (Xr 53#8) (Wf _) (Wc _) 0#64 _)) ⟨fun _=>Qb,trivial⟩ ?_
 rintro _ aI ⟨rfl,p⟩
 have bF:=p.size
 refine kG p ?_
 have aJ:=((Kp.refl ([]) aG).gr p)
 refine qh 0 rfl rfl aJ (fun w hS=>Qe0 (cf:=kb) (a:=Ki (Nx x6.1 y5.Box) (Xr 53#8) 0#64) (b:=p2.Check) Gx rfl rfl rfl rfl (fun h=>Dh h))<|Qa<|Kg hm rfl (fun c5 hm=>?_) (fun c5 hm=>?_)
 · refine Vl<|Zo<|Zg<|qg 2 rfl<|qv rfl (Zy (k:=.i64) (a:=a4) (b:=1) rfl rfl)<|qm rfl<|Qi ?_
   have K_55:Kz [] w9 aI:=((((((((f.gr g).md j).gr x).md o).gr A).md y).gr z).gr p)
   subst u
   exact⟨rfl,⟨n2,Qp (a4+1)⟩,Qh,⟨hm,K_55⟩,Nat.lt_succ_self _⟩
 refine qs 3 rfl ?_
 have aK:=(af.gr p)
 refine qv rfl (Qu Qy rfl aK rfl) ?_
 have aL:=Gr.trans G5 G6
 have aM:=((((((((((((s.gr aL).md M7).kz K9).kz f).gr g).md j).gr x).md o).gr A).md y).gr z).gr p)
 refine qe rfl (Qr Qy rfl rfl rfl aM rfl rfl) ?_
 rintro _ bG ⟨ag,ah⟩
 have bH:=ah.size
 refine qm rfl<|Qa<|Qs<|Je<|Zb<|Zb<|Je ?_
 refine Zb ?_
 have aN:=((((((((((W.kz f).trans g).md j).trans x).md o).trans A).md y).trans z).trans p).md ah)
 cases hm
 exact⟨_,_,rfl,Xy rfl (Zf Qy rfl ag rfl) (Qn rfl),rfl,aN⟩
theorem Qpk {p0 p1 vp1 zp1 gp1 op1 r}(hm:Mc p0 p1=some r){w:World}(f:Rd w zp1 gp1 op1 1 vp1 (p1.map ic)):
 Calls Tryz.prog 296 [.agg (Xv.cs p0).toArray,vp1].toArray w fun e w'=>∃ v,e=.returned v∧(v=.bool r∧Gr w w'):=by
 have y:=f.lth
 unfold Mc at hm
 refine Xu 32 Tryz.func296 rfl rfl rfl<|qs 2 rfl<|qe rfl (Xp (cs:=Xv.cs p0) rfl rfl) ?_
 rintro _ w1 ⟨b1,rfl,x,g,G1⟩
 have z2:=G1.size
 have z:=g.lt
 refine qm rfl<|Qa<|Qj<|qs 3 rfl<|qm rfl ?_
 have B4:=(f.gr G1)
 refine qv rfl (Zx (l:=p1) (c:=ic) Tryz.underlying45 rfl B4)<|qm rfl<|Qa<|Xz ?_
 have X5:=((Gr.refl w).trans G1)
 refine Kb (α:=Nat × Int) ([4,5,6]++rg 9 23) (fun⟨n1,a2⟩=>[(4,.bool false),(9,.int .i64 a2)]) (fun⟨n1,a2⟩ wr=>(Xq (Ro p0 p1) n1 a2=some r)∧Kz [] w1 wr) (fun⟨n1,a2⟩=>n1) ⟨Ze,0⟩ ?_ ?_ ?_
 · exact Qh
 · exact⟨hm,Kz.refl _ _⟩
 clear hm;rintro⟨n1,a2⟩ w2 ⟨hm,K2⟩
 have z6:=K2.size
 have hb:=Kd hm;clear hm;obtain⟨n1,rfl,hm⟩:=hb
 generalize d:Xq (Ro p0 p1) n1=h at hm
 unfold Ro at hm
 try dsimp only at hm
 refine qs 1 rfl<|qv rfl (Jb (a:=a2) (b:=(p1.length:Int)) rfl rfl)<|Qa<|Qj<|Kg hm rfl (fun c1 hm=>?_) (fun c1 hm=>?_)
 · refine Jl<|Zd<|Zd<|Jk<|Zg<|qs 1 rfl ?_
   refine qm rfl<|Qa<|Qs ?_
   have o:=(X5.kz K2)
   cases hm
   exact⟨_,_,rfl,Xj rfl (Qn rfl),rfl,o⟩
 refine qu<|Qj<|Xz<|qs 5 rfl<|qm rfl ?_
 obtain⟨y3,j,hm⟩:=Qd hm
 have B7:=(B4.kz K2)
 refine qv rfl (Vm (i:=a2) Tryz.underlying45 (Xm).siz rfl B7 rfl j)<|qv rfl (Pz (q:=0) (u:=.int .i64 y3) Xm rfl B7 j (by first|rfl|omega) rfl)<|qn 2 rfl<|Qa ?_
 have X8:=(X5.kz K2)
 refine qj (β:=Bool) (rg 14 17) (fun a4=>[(30,.bool a4)]) (fun a4 wr=>(Me a2 h a4=some r)∧Kz [] w2 wr) ?_ ?_
 · refine qg 17 rfl ?_
   have p:=(g.kz K2)
   refine qv rfl (Qu Kf rfl p rfl)<|qm rfl ?_
   obtain⟨x5,s,hm⟩:=Qd hm
   refine qe rfl (eC Qk9 rfl (Qjt s)) ?_
   rintro _ w4 ⟨rfl,G4⟩
   have A:=G4.size
   refine qv rfl (Jj rfl)<|Pw hm rfl (Qw rfl) (fun c3 hm=>?_) (fun c3 hm=>?_)
   · refine qn 7 rfl ?_
     refine qn 5 rfl<|Qi ?_
     exact⟨rfl,true,Qh,hm,(Xi.gr G4)⟩
   refine qm rfl<|qv rfl (Ve (a:=a2) (b:=0) rfl rfl)<|Kr hm rfl (Qw rfl) (fun c4 hm=>?_) (fun c4 hm=>?_)
   · refine qn 7 rfl ?_
     refine qn 2 rfl<|Qi ?_
     exact⟨rfl,false,Qh,hm,(Xi.gr G4)⟩
   refine qn 3 rfl<|qv rfl (Ys (k:=.i64) (a:=a2) (b:=1) rfl rfl) ?_
   obtain⟨y6,m,hm⟩:=Qd hm
   have n:=(B7.gr G4)
   refine qv rfl (Vm (i:=Qp (a2-1)) Tryz.underlying45 (Xm).siz rfl n rfl m)<|qv rfl (Pz (q:=0) (u:=.int .i64 y6) Xm rfl n m (by first|rfl|omega) rfl)<|qv rfl (Dp (a:=y3) (b:=y6) rfl rfl)<|qn 2 rfl<|Qi ?_
   exact⟨rfl,(decide (y3≤y6)),Qh,hm,(Xi.gr G4)⟩
 clear hm;rintro a4 w3 ⟨hm,K3⟩
 have z9:=K3.size
 unfold Me at hm
 refine Zw hm rfl (fun c2 hm=>?_) (fun c2 hm=>?_)
 · refine qs 1 rfl<|qm rfl<|Qa<|Qs<|Je<|Zb ?_
   refine Zb<|Je<|Zb ?_
   have t:=(X8.kz K3)
   cases hm
   exact⟨_,_,rfl,Xj rfl (Qn rfl),rfl,t⟩
 refine Vl<|Zo<|Zg<|qg 2 rfl<|qv rfl (Zy (k:=.i64) (a:=a2) (b:=1) rfl rfl)<|qm rfl<|Qi ?_
 have K_11:Kz [] w1 w3:=(K2.kz K3)
 subst d
 exact⟨rfl,⟨n1,Qp (a2+1)⟩,Qh,⟨hm,K_11⟩,Nat.lt_succ_self _⟩
theorem Qes {p0 p1 p2 bp2 vp2_0 zp2_0 gp2_0 r}(hm:Re p0 p1 p2=some r){w:World}(hbp2:Bx w bp2 252 ([vp2_0]))(a:Qe w zp2_0 gp2_0 193 2 vp2_0 (p2.map Xs.cs))(d:Xk (zp2_0=0∨gp2_0≠bp2)):
 Calls Tryz.prog 297 [.int .i64 p0,.int .i64 p1,.pointer (some ⟨bp2,0,none⟩)].toArray w fun e w'=>∃ v,e=.returned v∧(∃ ub0_s zb0_s gb0_s,v=.tuple #[]∧Qe w' zb0_s gb0_s 193 2 ub0_s (r.map Xs.cs)∧Xk (zb0_s=0∨(gb0_s=gp2_0∧zp2_0≠0)∨w.heap.size≤gb0_s)∧Bx w' bp2 252 ([ub0_s])∧Kz [(zp2_0,gp2_0),(1,bp2)] w w'):=by
 have f:=a.lth
 have u:=hbp2.lt
 unfold Re at hm
 refine Xu 11 Tryz.func297 rfl rfl rfl<|qg 7 rfl<|qv rfl (Ql (v:=vp2_0) Qcy rfl hbp2 rfl)<|qn 2 rfl<|qv rfl (Zk (cs:=Xs.cs (Xs.mk p0 p1)) Ek rfl rfl)<|qe rfl (Ko [(Xs.mk p0 p1)] Xs.cs Qj8 rfl rfl (Ks rfl) rfl rfl rfl) ?_
 rintro y w1 ⟨z,t,g,G1⟩
 have z3:=G1.size
 have B:=g.lth
 have B5:=(a.gr G1)
 obtain⟨l1,k,hm⟩:=Qd hm
 refine qe rfl (Wo (l:=p2) (m:=[(Xs.mk p0 p1)]) (c:=Xs.cs) Qoe rfl rfl B5 (Qe.rd g) k (by decide)) ?_
 rintro h w2 ⟨n,p,i,b,C,j⟩
 have z6:=b.size
 have B7:=((hbp2.gr G1).ka b (Qc ((Jt f.o d.o):zp2_0=0∨gp2_0≠bp2)))
 refine qe rfl (Js (cs':=[h]) (Qcy).siz rfl rfl (Qe.oneB i) B7 rfl rfl) ?_
 rintro _ w3 ⟨q,M3⟩
 have z8:=M3.size
 refine Qi ?_
 have B9:=(i.md M3 (Bt j (Jt f.o d.o)))
 have s:=((((Kz.refl [(zp2_0,gp2_0),(1,bp2)] w).gr G1).ka b (Qc (Qb:zp2_0=0∨(gp2_0=gp2_0∧zp2_0≠0)∨w.heap.size≤gp2_0))).md M3)
 cases hm
 exact⟨_,_,rfl,Ph rfl,h,n,p,rfl,B9,⟨(Yp (A:=(fun x=>(x=gp2_0∧zp2_0≠0)∨w.heap.size≤x)) j Qb)⟩,q,s⟩
theorem Qpa {p0 p1 vp1 zp1 gp1 op1 r}(hm:Ct p0 p1=some r){w:World}(aP:Rd w zp1 gp1 op1 1 vp1 (p1.map ic)):
 Calls Tryz.prog 212 [.agg (Xn.cs p0).toArray,vp1].toArray w fun e w'=>∃ v,e=.returned v∧(∃ ur0_s zr0_s gr0_s,v=.tuple [ur0_s,.int .i64 r.2].toArray∧Qe w' zr0_s gr0_s 193 2 ur0_s (r.1.map Xs.cs)∧Xk (zr0_s=0∨w.heap.size≤gr0_s)∧Gr w w'):=by
 have P:=aP.lth
 unfold Ct at hm
 refine Xu 134 Tryz.func212 rfl rfl rfl<|qs 3 rfl<|qe rfl (Xp (cs:=Xn.cs p0) rfl rfl) ?_
 rintro _ w1 ⟨b1,rfl,cn,aQ,G1⟩
 have z2:=G1.size
 have cM:=aQ.lt
 refine qn 2 rfl<|qd 8 rfl<|qv rfl (Qu Jr rfl aQ rfl) ?_
 obtain⟨x1,bq,hm⟩:=Qd hm
 refine qe rfl (eC Qb3 rfl (Qal bq (Qe.rd (Za _ 0 193 2)))) ?_
 rintro _ w2 ⟨rfl,G2⟩
 have z4:=G2.size
 refine qn 3 rfl<|qe rfl (Qz (cs:=Xv.cs (Xv.mk 0#8 0 0)) Nl rfl) ?_
 rintro _ w3 ⟨b3,rfl,co,aR,G3⟩
 have z5:=G3.size
 have cN:=aR.lt
 refine qe rfl (Qr Kf rfl rfl rfl aR rfl rfl) ?_
 rintro _ w4 ⟨az,M4⟩
 have z7:=M4.size
 refine qm rfl<|Qa<|Qj<|qs 2 rfl<|qm rfl<|qv rfl (Zp (a:=x1.2) (b:=0) rfl rfl) ?_
 refine Qa<|Zv hm rfl (fun c1 hm=>?_) (fun c1 hm=>?_)
 · refine qs 3 rfl<|qn 3 rfl<|Qa<|Qs ?_
   refine Zb ?_
   have Y1:=Gr.trans (Gr.trans G1 G2) G3
   have X8:=(((Gr.refl w).trans Y1).md M4)
   cases hm
   exact⟨_,_,rfl,Xy rfl (Qn rfl) (Qn rfl),(.slice none 0 0),0,0,rfl,(Za _ 0 193 2),⟨.inl rfl⟩,X8⟩
 refine qu<|Qj<|qs 4 rfl<|qv rfl (Qu Kf rfl az rfl)<|qm rfl ?_
 have Y2:=Gr.trans (Gr.trans G1 G2) G3
 have B9:=((aP.gr Y2).md M4 (Qm P))
 obtain⟨x2,br,hm⟩:=Qd hm
 refine qe rfl (eC Qqq rfl (Qpk br B9)) ?_
 rintro _ w5 ⟨rfl,G5⟩
 have cO:=G5.size
 refine qv rfl (Jj rfl)<|Qa<|Zw hm rfl (fun c2 hm=>?_) (fun c2 hm=>?_)
 · refine qs 2 rfl<|qn 2 rfl<|Qa<|Qs<|Zb ?_
   have bs:=((((Gr.refl w).trans Y2).md M4).trans G5)
   cases hm
   exact⟨_,_,rfl,Xy rfl (Qn rfl) (Qn rfl),(.slice none 0 0),0,0,rfl,(Za _ 0 193 2),⟨.inl rfl⟩,bs⟩
 refine qu<|Qj<|qs 3 rfl<|qm rfl ?_
 have aS:=(B9.gr G5)
 refine qv rfl (Zx (l:=p1) (c:=ic) Tryz.underlying45 rfl aS)<|qv rfl (Kw (a:=(p1.length:Int)) (b:=0) rfl rfl)<|Qa<|Zv hm rfl (fun c3 hm=>?_) (fun c3 hm=>?_)
 · refine qs 4 rfl<|qv rfl (Zk (cs:=Xs.cs (Xs.mk 1 0)) Ek rfl rfl)<|qe rfl (Ko [(Xs.mk 1 0)] Xs.cs Qj8 rfl rfl (Ks rfl) rfl rfl rfl) ?_
   rintro bu w6 ⟨bw,cp,aT,G6⟩
   have cP:=G6.size
   have cq:=aT.lth
   refine qn 2 rfl<|qb ?_
   have bx:=(((((Gr.refl w).trans Y2).md M4).trans G5).trans G6)
   cases hm
   exact⟨_,_,rfl,Xy rfl (Qn rfl) (Qn rfl),bu,1,bw,rfl,aT,⟨(.inr Qb)⟩,bx⟩
 refine qu<|qs 2 rfl<|qe rfl (Qsa) ?_
 rintro _ w7 ⟨b7,rfl,cr,aU,G7⟩
 have cQ:=G7.size
 have ct:=aU.lt
 refine qm rfl<|Qa<|Qj<|qs 3 rfl<|qm rfl ?_
 have aA:=(aS.gr G7)
 refine qv rfl (Zx (l:=p1) (c:=ic) Tryz.underlying45 rfl aA)<|qm rfl<|Qa<|Xz ?_
 have aV:=(((((Gr.refl w).trans Y2).md M4).trans G5).trans G7)
 refine Kb (α:=Nat × Int × List Int) ([10,11]++rg 37 14) (fun⟨n1,a5,a6⟩=>[(37,.int .i64 a5)]) (fun⟨n1,a5,a6⟩ wr=>(Xq (Rh p1 x1) n1 (a5,a6)=some r)∧Mo wr b7 a6∧Kz [(1,b7)] w7 wr) (fun⟨n1,a5,a6⟩=>n1) ⟨Ze,0,[]⟩ ?_ ?_ ?_
 · exact Qh
 · exact⟨hm,aU,Kz.refl _ _⟩
 clear hm;rintro⟨n1,a5,a6⟩ w8 ⟨hm,K,K8⟩
 have cR:=K8.size
 have cu:=K.lt
 have hb:=Kd hm;clear hm;obtain⟨n1,rfl,hm⟩:=hb
 generalize aB:Xq (Rh p1 x1) n1=au at hm
 unfold Rh at hm
 try dsimp only at hm
 refine qs 1 rfl<|qv rfl (Jb (a:=a5) (b:=(p1.length:Int)) rfl rfl)<|Qa<|Qj<|Zv hm rfl (fun c4 hm=>?_) (fun c4 hm=>?_)
 · refine qu<|Qj<|Xz<|qs 3 rfl ?_
   obtain⟨y7,aW,hm⟩:=Qd hm
   have aC:=(aA.kz K8 (Qc (Qm (b:=b7) P)))
   refine qv rfl (Vm (i:=a5) Tryz.underlying45 (Xm).siz rfl aC rfl aW)<|qv rfl (Pz (q:=0) (u:=.int .i64 y7) Xm rfl aC aW (by first|rfl|omega) rfl)<|qm rfl<|qd 4 rfl ?_
   have bz:=(((az.gr G5).gr G7).kz K8)
   refine qv rfl (Qu Kf rfl bz rfl)<|qm rfl ?_
   obtain⟨x8,bA,hm⟩:=Qd hm
   refine qe rfl (eC Qkh rfl (Qjs bA)) ?_
   rintro _ w9 ⟨rfl,G9⟩
   have cS:=G9.size
   refine qm rfl<|Qa<|Xz ?_
   have cT:=((aV.kz K8).trans G9)
   have cU:=(aC.gr G9)
   have bB:=(K.gr G9)
   refine Kb (α:=Nat × Int × List Int) ([11]++rg 44 6) (fun⟨n2,C,L⟩=>[(11,.int .i64 C)]) (fun⟨n2,C,L⟩ wr=>(Xq (Ri a5 au) n2 (C,L)=some r)∧Mo wr b7 L∧Kz [(1,b7)] w9 wr) (fun⟨n2,C,L⟩=>n2) ⟨Ze,x8,a6⟩ ?_ ?_ ?_
   · exact Qh
   · exact⟨hm,bB,Kz.refl _ _⟩
   clear hm;rintro⟨n2,C,L⟩ bC ⟨hm,G,aD⟩
   have cV:=aD.size
   have cv:=G.lt
   have hb:=Kd hm;clear hm;obtain⟨n2,rfl,hm⟩:=hb
   generalize aE:Xq (Ri a5 au) n2=cw at hm
   unfold Ri at hm
   try dsimp only at hm
   refine Qj<|qs 2 rfl<|qm rfl<|qv rfl (Ve (a:=C) (b:=0) rfl rfl)<|Qa<|Kg hm rfl (fun c5 hm=>?_) (fun c5 hm=>?_)
   · refine Jl<|Zd<|Zd<|Jk<|Zo<|Zg<|qg 2 rfl ?_
     refine qv rfl (Zy (k:=.i64) (a:=a5) (b:=1) rfl rfl)<|qm rfl<|Qi ?_
     have K_32:Kz [(1,b7)] w7 bC:=((K8.gr G9).kz aD)
     subst aB
     exact⟨rfl,⟨n1,Qp (a5+1),L⟩,Qh,⟨hm,G,K_32⟩,Nat.lt_succ_self _⟩
   refine qu<|Qj<|Xz<|qg 3 rfl<|qn 2 rfl ?_
   refine qe rfl (Qsb (k:=C) Bp rfl rfl rfl G) ?_
   rintro _ bD ⟨aX,aY⟩
   have cW:=aY.size
   refine Qi<|Zo<|Zg<|qg 3 rfl<|qm rfl ?_
   obtain⟨nn13,hnn13,hm⟩:=Qd hm
   refine qv rfl (Qe4 (a:=C) (b:=(un 1#64)) rfl rfl hnn13)<|qm rfl<|Qi ?_
   have K_31:Kz [(1,b7)] w9 bD:=(aD.md aY)
   subst aE
   exact⟨rfl,⟨n2,Ls C nn13,Pe L C⟩,Qh,⟨hm,aX,K_31⟩,Nat.lt_succ_self _⟩
 refine Jl<|Zd<|Zd<|Jk<|Zg<|qs 1 rfl ?_
 refine qe rfl (Qz (cs:=[(.slice none 0 0)]) Qx9 rfl) ?_
 rintro _ cX ⟨s,rfl,bE,av,ae⟩
 have cY:=ae.size
 have cx:=av.lt
 refine qd 2 rfl<|qv rfl (Da rfl rfl)<|qm rfl<|Qa<|Qj ?_
 refine qs 2 rfl<|qm rfl ?_
 have aZ:=(K.gr ae)
 refine qe rfl (Qsd Bp rfl aZ) ?_
 rintro _ h ⟨B,rfl,bF,aw,Q⟩
 have cZ:=Q.size
 have cy:=aw.lt
 refine Qa<|Xz ?_
 have aF:=(((aV.kz K8).trans ae).trans Q)
 have bG:=(((aA.kz K8 (Qc (Qm (b:=b7) P))).gr ae).gr Q)
 have bH:=(aZ.gr Q)
 have bI:=(av.gr Q)
 refine Kb (α:=Nat × List Xs × Value × Nat × Nat × List Int) ([14,15,16]++rg 54 77) (fun⟨n3,t,vy17,zy17,gy17,rem⟩=>[]) (fun⟨n3,t,vy17,zy17,gy17,rem⟩ wr=>(Pj (Se x1 a6) Rf n3 rem t=some r)∧Qe wr zy17 gy17 193 2 vy17 (t.map Xs.cs)∧Xk (zy17=0∨h.heap.size≤gy17)∧Bx wr s 252 [vy17]∧Mi wr B b7 a6 rem∧Kz [(1,s),(1,B)] h wr) (fun⟨n3,t,vy17,zy17,gy17,rem⟩=>n3) ⟨Ze,[],(.slice none 0 0),0,0,a6⟩ ?_ ?_ ?_
 · exact Qh
 · exact⟨hm,(Za _ 0 193 2),⟨(.inl rfl)⟩,bI,aw,Kz.refl _ _⟩
 clear hm;rintro⟨n3,t,vy17,zy17,gy17,rem3⟩ c0 ⟨hm,n,d,f,ax,y⟩
 have da:=y.size
 have cz:=n.lth
 have cA:=f.lt
 have cB:=ax.lt
 refine qs 2 rfl ?_
 have a0:=(bH.kz y)
 refine qe rfl (Qsc rfl a0 ax) ?_
 rintro _ a1 (⟨rfl,hr,ah⟩|⟨k18,hk,rfl,MKw15,g⟩)
 · have db:=ah.size
   replace hm:=Qul hm hr
   unfold Rf at hm
   try dsimp only at hm
   refine qm rfl<|Qa<|Qj<|Gi rfl<|Jl<|Zd<|Zd ?_
   refine Jk<|Zg<|qs 2 rfl ?_
   have a2:=(f.gr ah)
   refine qv rfl (Ql (v:=vy17) Qcy rfl a2 rfl) ?_
   have bJ:=(n.gr ah)
   obtain⟨dc,a3,hm⟩:=Qd hm
   refine qe rfl (eC Qqr rfl (Qvb a3 _ _ _ _ bJ)) ?_
   rintro _ dd ⟨a4,aG⟩
   have de:=aG.size
   refine qd 3 rfl ?_
   have bK:=(a2.kz aG (Qc (Qt (b:=s) d)))
   refine qv rfl (Ql (v:=vy17) Qcy rfl bK rfl)<|qn 2 rfl<|Qa<|Qs ?_
   have bL:=(((aF.kz y).trans ah).kz aG (Qc (Qk (A:=(fun x=>w.heap.size≤x)) d)))
   cases hm
   exact⟨_,_,rfl,Xy rfl (Qn rfl) (Qn rfl),vy17,zy17,gy17,rfl,a4,⟨(Qk (A:=(fun x=>w.heap.size≤x)) d)⟩,bL⟩
 have df:=g.size
 have hb:=Quk hm hk;clear hm;obtain⟨n3,rfl,hm⟩:=hb
 generalize hnx3:Pj (Se x1 a6) Rf n3 (rem3.filter (· ≠ k18))=R at hm
 unfold Se at hm
 try dsimp only at hm
 refine qm rfl<|Qa<|Qj<|Td rfl<|qu<|Xz ?_
 refine qs 3 rfl ?_
 have ai:=(a0.md g)
 refine qv rfl (Qwh rfl ai MKw15)<|qn 2 rfl<|Qa<|Qj<|qs 3 rfl ?_
 refine qv rfl (Qg Nz rfl) ?_
 have a7:=(((((((az.gr G5).gr G7).kz K8).gr ae).gr Q).kz y).md g)
 refine qv rfl (Ql (v:=bv x1.1.kind) Zj rfl a7 rfl)<|qv rfl (Pb (p:=x1.1.kind) (q:=1#8) rfl rfl)<|Qa<|Zv hm rfl (fun c6 hm=>?_) (fun c6 hm=>?_)
 · refine Qj ?_
   have dg:=((aF.kz y).md g)
   refine qj (β:=Bool) (rg 61 9) (fun aj=>[(69,.bool aj)]) (fun aj wr=>(Cu t R k18 aj=some r)∧Kz [] a1 wr) ?_ ?_
   · refine qg 9 rfl<|qm rfl<|qv rfl (Ve (a:=k18) (b:=1) rfl rfl)<|Kr hm rfl (Qw rfl) (fun c8 hm=>?_) (fun c8 hm=>?_)
     · refine qn 6 rfl<|Qi ?_
       exact⟨rfl,false,Qh,hm,Xi⟩
     refine qn 2 rfl ?_
     obtain⟨a8,a9,hm⟩:=Qd hm
     refine qe rfl (eC Qb6 rfl (Qao a9)) ?_
     rintro _ di ⟨rfl,aH⟩
     have dj:=aH.size
     have bM:=(ai.gr aH)
     refine qv rfl (Ol (k:=a8) (ks:=a6) Bp rfl rfl bM)<|qv rfl (Qip rfl)<|qm rfl<|Qi ?_
     exact⟨rfl,(decide (¬ (a8∈a6))),Qh,hm,(Xi.gr aH)⟩
   clear hm;rintro aj bN ⟨hm,H⟩
   have dk:=H.size
   unfold Cu at hm
   refine Nt hm rfl (fun c7 hm=>?_) (fun c7 hm=>?_)
   · refine qu<|Jl<|Zd<|Jk ?_
     have K_65:Kz [(1,s),(1,B)] h bN:=((y.md g).kz H)
     have bO:=((n.md g (Qt d)).kz H)
     have bP:=((f.md g).kz H)
     have bQ:=(Mi.kz (Mk.mi MKw15) H)
     subst hnx3
     exact⟨rfl,⟨n3,t,vy17,zy17,gy17,(rem3.filter (· ≠ k18))⟩,Qh,⟨hm,bO,⟨(Qk (A:=(fun x=>h.heap.size≤x)) d)⟩,bP,bQ,K_65⟩,Nat.lt_succ_self _⟩
   refine qg 4 rfl<|qn 2 rfl ?_
   obtain⟨dl,ba,hm⟩:=Qd hm
   refine qe rfl (eC Qb6 rfl (Qao ba)) ?_
   rintro _ dp ⟨rfl,af⟩
   have dq:=af.size
   have bR:=(((f.md g).kz H).gr af)
   have bS:=(((n.md g (Qt d)).kz H).gr af)
   obtain⟨bT,bb,hm⟩:=Qd hm
   refine qe rfl (Vk Qfq rfl rfl (Qes bb bR bS ⟨(Qc (Qt (b:=s) d))⟩)) ?_
   rintro _ bU ⟨S,T,U,rfl,D,V,ak,aI⟩
   have dr:=aI.size
   have cC:=D.lth
   refine Qa<|Jl<|Zd<|Jk ?_
   have K_63:Kz [(1,s),(1,B)] h bU:=((((y.md g).kz H).gr af).kz aI (Qc (Qk (A:=(fun x=>h.heap.size≤x)) d)))
   have bV:=(Mi.kz (Mi.gr (Mi.kz (Mk.mi MKw15) H) af) aI (Qc (Qt (b:=B) d)))
   subst hnx3
   exact⟨rfl,⟨n3,bT,S,T,U,(rem3.filter (· ≠ k18))⟩,Qh,⟨hm,D,⟨(Qv (A:=(fun x=>h.heap.size≤x)) V (Qk (A:=(fun x=>h.heap.size≤x)) d))⟩,ak,bV,K_63⟩,Nat.lt_succ_self _⟩
 refine qu<|Qj ?_
 have bW:=((aF.kz y).md g)
 refine qj (β:=Bool) (rg 74 9) (fun al=>[(82,.bool al)]) (fun al wr=>(Sd x1 a6 t R k18 al=some r)∧Kz [] a1 wr) ?_ ?_
 · refine qg 9 rfl<|qm rfl<|qv rfl (Ve (a:=k18) (b:=1) rfl rfl)<|Kr hm rfl (Qw rfl) (fun bX hm=>?_) (fun bX hm=>?_)
   · refine qn 6 rfl<|Qi ?_
     exact⟨rfl,false,Qh,hm,Xi⟩
   refine qn 2 rfl ?_
   obtain⟨bc,bd,hm⟩:=Qd hm
   refine qe rfl (eC Qb6 rfl (Qao bd)) ?_
   rintro _ ds ⟨rfl,aJ⟩
   have cD:=aJ.size
   have be:=(ai.gr aJ)
   refine qv rfl (Ol (k:=bc) (ks:=a6) Bp rfl rfl be)<|qv rfl (Qip rfl)<|qm rfl<|Qi ?_
   exact⟨rfl,(decide (¬ (bc∈a6))),Qh,hm,(Xi.gr aJ)⟩
 clear hm;rintro al am ⟨hm,m⟩
 have dt:=m.size
 unfold Sd at hm
 refine Zw hm rfl (fun c9 hm=>?_) (fun c9 hm=>?_)
 · refine Jl<|Zd<|Jk ?_
   have K_75:Kz [(1,s),(1,B)] h am:=((y.md g).kz m)
   have bY:=((n.md g (Qt d)).kz m)
   have bZ:=((f.md g).kz m)
   have b0:=(Mi.kz (Mk.mi MKw15) m)
   subst hnx3
   exact⟨rfl,⟨n3,t,vy17,zy17,gy17,(rem3.filter (· ≠ k18))⟩,Qh,⟨hm,bY,⟨(Qk (A:=(fun x=>h.heap.size≤x)) d)⟩,bZ,b0,K_75⟩,Nat.lt_succ_self _⟩
 refine qu<|qs 2 rfl<|qn 2 rfl<|Qa ?_
 refine Qj<|Xz ?_
 have b2:=(bW.kz m)
 have du:=(((bG.kz y (Jt (Qm (b:=s) P) (Qm (b:=B) P))).md g (Qm P)).kz m)
 have aK:=((n.md g (Qt d)).kz m)
 refine Kb (α:=Nat × Int) ([15]++rg 84 18) (fun⟨n6,j⟩=>[(15,.int .i64 j)]) (fun⟨n6,j⟩ wr=>(Xq (Nu x1 a6 t R k18) n6 j=some r)∧Kz [] am wr) (fun⟨n6,j⟩=>n6) ⟨Ze,k18⟩ ?_ ?_ ?_
 · exact Qh
 · exact⟨hm,Kz.refl _ _⟩
 clear hm;rintro⟨n6,j⟩ J ⟨hm,o⟩
 have dv:=o.size
 have hb:=Kd hm;clear hm;obtain⟨n6,rfl,hm⟩:=hb
 generalize ag:Xq (Nu x1 a6 t R k18) n6=cE at hm
 unfold Nu at hm
 try dsimp only at hm
 refine Qj<|qs 10 rfl<|qn 2 rfl<|qv rfl (Wj (k:=.i64) (a:=2) (b:=j) rfl rfl) ?_
 have aL:=((ai.kz m).kz o)
 refine qv rfl (Ol (k:=Qp (2*j)) (ks:=a6) Bp rfl rfl aL)<|qn 2 rfl<|qv rfl (Wj (k:=.i64) (a:=2) (b:=j) rfl rfl)<|qv rfl (Zy (k:=.i64) (a:=Qp (2*j)) (b:=1) rfl rfl)<|qv rfl (Ol (k:=Qp ((Qp (2*j))+1)) (ks:=a6) Bp rfl rfl aL)<|qv rfl (Qwv Tryz.underlying4 rfl rfl) ?_
 refine Qa<|Zw hm rfl (fun b4 hm=>?_) (fun b4 hm=>?_)
 · refine qu<|Xz<|qs 3 rfl<|qm rfl<|qv rfl (Wj (k:=.i64) (a:=j) (b:=2) rfl rfl) ?_
   refine qm rfl<|qd 4 rfl<|qn 2 rfl<|qv rfl (Ol (k:=Qp (j*2)) (ks:=a6) Bp rfl rfl aL) ?_
   refine qv rfl (Qip rfl)<|Qa<|Kg hm rfl (fun b5 hm=>?_) (fun b5 hm=>?_)
   · refine Vl<|Zo ?_
     have K_85:Kz [] am J:=o
     subst ag
     exact⟨rfl,⟨n6,Qp (j*2)⟩,Qh,⟨hm,K_85⟩,Nat.lt_succ_self _⟩
   refine qg 3 rfl<|qm rfl<|qv rfl (Zy (k:=.i64) (a:=Qp (j*2)) (b:=1) rfl rfl)<|qm rfl<|Qi<|Zo ?_
   have K_84:Kz [] am J:=o
   subst ag
   exact⟨rfl,⟨n6,Qp ((Qp (j*2))+1)⟩,Qh,⟨hm,K_84⟩,Nat.lt_succ_self _⟩
 refine Jl<|Zd<|Zd<|Jk<|Zg<|Qj<|Qj ?_
 refine qg 3 rfl<|qn 2 rfl<|qv rfl (Kw (a:=j) (b:=k18) rfl rfl)<|Qa<|Zv hm rfl (fun b6 hm=>?_) (fun b6 hm=>?_)
 · refine Jl<|Zd<|Jk ?_
   have K_86:Kz [(1,s),(1,B)] h J:=(((y.md g).kz m).kz o)
   have b8:=(aK.kz o)
   have b9:=(((f.md g).kz m).kz o)
   have ca:=(Mi.kz (Mi.kz (Mk.mi MKw15) m) o)
   subst hnx3
   exact⟨rfl,⟨n3,t,vy17,zy17,gy17,(rem3.filter (· ≠ k18))⟩,Qh,⟨hm,b8,⟨(Qk (A:=(fun x=>h.heap.size≤x)) d)⟩,b9,ca,K_86⟩,Nat.lt_succ_self _⟩
 refine qu ?_
 have cb:=(b2.kz o)
 refine qj (β:=Int × List Xs × Value × Nat × Nat) ([14,16]++rg 105 22) (fun⟨an,ao,vy29,zy29,gy29⟩=>[(14,.int .i64 an)]) (fun⟨an,ao,vy29,zy29,gy29⟩ wr=>(Cw R j an ao=some r)∧Qe wr zy29 gy29 193 2 vy29 (ao.map Xs.cs)∧Xk (zy29=0∨(gy29=gy17∧zy17≠0)∨J.heap.size≤gy29)∧Bx wr s 252 [vy29]∧Kz [(1,s),(zy17,gy17)] J wr) ?_ ?_
 · refine qs 5 rfl ?_
   have bf:=((a7.kz m).kz o)
   refine qv rfl (Qu Kf rfl bf rfl)<|qn 2 rfl ?_
   obtain⟨aM,bg,hm⟩:=Qd hm
   refine qe rfl (eC Qkk rfl (Qjp bg)) ?_
   rintro _ cc ⟨rfl,I⟩
   have dy:=I.size
   refine qm rfl<|Qa ?_
   have cF:=(cb.trans I)
   refine qj (β:=Bool) (rg 109 13) (fun ap=>[(121,.bool ap)]) (fun ap wr=>(Du t R k18 j aM ap=some r)∧Kz [] cc wr) ?_ ?_
   · refine qg 13 rfl<|qm rfl<|qv rfl (Zp (a:=aM) (b:=0) rfl rfl)<|Kr hm rfl (Qw rfl) (fun cd hm=>?_) (fun cd hm=>?_)
     · refine qn 7 rfl ?_
       refine qn 3 rfl<|Qi ?_
       exact⟨rfl,false,Qh,hm,Xi⟩
     refine qv rfl (Qg Nz rfl) ?_
     have ay:=(bf.gr I)
     refine qv rfl (Ql (v:=bv x1.1.kind) Zj rfl ay rfl)<|qv rfl (Pb (p:=x1.1.kind) (q:=3#8) rfl rfl)<|qm rfl<|Kr hm rfl (Qw rfl) (fun ce hm=>?_) (fun ce hm=>?_)
     · refine qn 5 rfl<|Qi ?_
       exact⟨rfl,false,Qh,hm,Xi⟩
     refine qv rfl (Qu Kf rfl ay rfl)<|qm rfl ?_
     obtain⟨cf,bh,hm⟩:=Qd hm
     refine qe rfl (eC Qfp rfl (Qf7 bh)) ?_
     rintro _ dz ⟨rfl,bi⟩
     have cG:=bi.size
     refine qv rfl (Jj rfl)<|qm rfl<|Qi ?_
     exact⟨rfl,(!cf),Qh,hm,(Xi.gr bi)⟩
   clear hm;rintro ap cg ⟨hm,M⟩
   have cH:=M.size
   unfold Du at hm
   refine Nt hm rfl (fun ch hm=>?_) (fun ch hm=>?_)
   · refine Vl ?_
     have K_107:Kz [(1,s),(zy17,gy17)] J cg:=((Kz.gr (Kz.refl _ _) I).kz M)
     have bj:=(((aK.kz o).gr I).kz M)
     have bk:=(((((f.md g).kz m).kz o).gr I).kz M)
     exact⟨rfl,⟨k18,t,vy17,zy17,gy17⟩,Qh,hm,bj,⟨Qb⟩,bk,K_107⟩
   refine qs 4 rfl<|qn 3 rfl ?_
   have bl:=(((((f.md g).kz m).kz o).gr I).kz M)
   have bm:=(((aK.kz o).gr I).kz M)
   obtain⟨ci,bn,hm⟩:=Qd hm
   refine qe rfl (Vk Qfq rfl rfl (Qes bn bl bm ⟨(Qc (Qt (b:=s) d))⟩)) ?_
   rintro _ dA ⟨W,X,Y,rfl,E,Z,aq,bo⟩
   have cI:=bo.size
   have cj:=E.lth
   refine Qa<|qg 2 rfl<|qn 2 rfl<|Qi ?_
   exact⟨rfl,⟨aM,ci,W,X,Y⟩,Qh,hm,E,⟨(Qv (A:=(fun x=>(x=gy17∧zy17≠0)∨J.heap.size≤x)) Z Qb)⟩,aq,(((Kz.gr (Kz.refl _ _) I).kz M).kz bo (Qc (Qb:zy17=0∨(gy17=gy17∧zy17≠0)∨J.heap.size≤gy17)))⟩
 clear hm;rintro⟨an,ao,vy29,zy29,gy29⟩ dB ⟨hm,N,z,O,aN⟩
 have dC:=aN.size
 have cJ:=N.lth
 have cK:=O.lt
 unfold Cw at hm
 refine qg 4 rfl<|qn 3 rfl ?_
 obtain⟨ck,bp,hm⟩:=Qd hm
 refine qe rfl (Vk Qfq rfl rfl (Qes bp O N ⟨(Qc (Qf (b:=s) z (Qt d)))⟩)) ?_
 rintro _ cl ⟨aa,ab,ac,rfl,F,ad,ar,aO⟩
 have dD:=aO.size
 have cL:=F.lth
 refine Qi<|Zo ?_
 have K_96:Kz [(1,s),(1,B)] h cl:=(((((y.md g).kz m).kz o).kz aN (Qc (Qk (A:=(fun x=>h.heap.size≤x)) d))).kz aO (Qc (Qv (A:=(fun x=>h.heap.size≤x)) z (Qk (A:=(fun x=>h.heap.size≤x)) d))))
 have cm:=(Mi.kz (Mi.kz (Mi.kz (Mi.kz (Mk.mi MKw15) m) o) aN (Qc (Qt (b:=B) d))) aO (Qc (Qf (b:=B) z (Qt d))))
 subst hnx3
 exact⟨rfl,⟨n3,ck,aa,ab,ac,(rem3.filter (· ≠ k18))⟩,Qh,⟨hm,F,⟨(Qv (A:=(fun x=>h.heap.size≤x)) ad (Qv (A:=(fun x=>h.heap.size≤x)) z (Qk (A:=(fun x=>h.heap.size≤x)) d)))⟩,ar,cm,K_96⟩,Nat.lt_succ_self _⟩
theorem Qpd {p0 p1 p2 p3 vp2 zp2 gp2 op2 r}(hm:Eu p0 p1 p2 p3=some r){w:World}(T:Rd w zp2 gp2 op2 2 vp2 (p2.map Xs.cs)):
 Calls Tryz.prog 213 [kv p0,.agg (Xn.cs p1).toArray,vp2,kv p3].toArray w fun e w'=>∃ v,e=.returned v∧(∃ ur0_0 zr0_0 gr0_0 ur0_2 zr0_2 gr0_2,v=.tuple [.agg (Qq.cs r.1 ur0_0 ur0_2).toArray,.int .i64 r.2].toArray∧Qe w' zr0_0 gr0_0 195 18 ur0_0 (r.1.Items.map Zc.cs)∧Xk (zr0_0=0∨w.heap.size≤gr0_0)∧Qe w' zr0_2 gr0_2 65 2 ur0_2 (r.1.Points.map Qx.cs)∧Xk (zr0_2=0∨w.heap.size≤gr0_2)∧Xk (zr0_2=0∨zr0_0=0∨gr0_2≠gr0_0)∧Gr w w'):=by
 have M:=T.lth
 unfold Eu at hm
 refine Xu 60 Tryz.func213 rfl rfl rfl<|qs 5 rfl<|qe rfl (Xp (cs:=kb p0) rfl rfl) ?_
 rintro _ w1 ⟨b1,rfl,aY,U,G1⟩
 have z2:=G1.size
 have bf:=U.lt
 refine qe rfl (Xp (cs:=Xn.cs p1) rfl rfl) ?_
 rintro _ w2 ⟨b2,rfl,aZ,V,G2⟩
 have z4:=G2.size
 have bg:=V.lt
 refine qe rfl (Xp (cs:=kb p3) rfl rfl) ?_
 rintro _ w3 ⟨b3,rfl,a0,W,G3⟩
 have z6:=G3.size
 have bh:=W.lt
 refine qe rfl (Qz (cs:=Qq.cs (Qq.mk [] 0#64 [] k0 k0) (.slice none 0 0) (.slice none 0 0)) Gl rfl) ?_
 rintro _ w4 ⟨b4,rfl,a1,B,G4⟩
 have z8:=G4.size
 have bi:=B.lt
 refine qm rfl<|Qa<|Qj<|qs 3 rfl ?_
 have Y1:=Gr.trans G3 G4
 have X:=(V.gr Y1)
 refine qv rfl (Qu Jr rfl X rfl) ?_
 obtain⟨x1,ax,hm⟩:=Qd hm
 refine qe rfl (eC Ae rfl (Et ax)) ?_
 rintro _ w5 ⟨rfl,G5⟩
 have bj:=G5.size
 refine qm rfl<|qd 2 rfl<|qm rfl<|qv rfl (Zp (a:=x1) (b:=0) rfl rfl)<|Qa ?_
 refine Zv hm rfl (fun c1 hm=>?_) (fun c1 hm=>?_)
 · refine qs 4 rfl<|qv rfl (Zk (cs:=Qq.cs (Qq.mk [] 0#64 [] k0 k0) (.slice none 0 0) (.slice none 0 0)) Hs rfl (by kernel_rfl))<|qm rfl ?_
   have ay:=(B.gr G5)
   refine qe rfl (Qr Jw rfl rfl (Qq.cs_ones _ _ _ rfl rfl) ay rfl rfl) ?_
   rintro _ w6 ⟨az,M6⟩
   have bk:=M6.size
   refine qm rfl<|qb ?_
   have Y2:=Gr.trans (Gr.trans (Gr.trans G1 G2) Y1) G5
   have aA:=(((Gr.refl w).trans Y2).md M6)
   cases hm
   exact⟨_,_,rfl,Xy rfl (Zf Jw rfl az rfl) (Qn rfl),(.slice none 0 0),0,0,(.slice none 0 0),0,0,rfl,(Za _ 0 195 18),⟨.inl rfl⟩,(Za _ 0 65 2),⟨.inl rfl⟩,⟨(.inl rfl)⟩,aA⟩
 refine qu<|Qj<|qs 3 rfl<|qm rfl ?_
 have Y3:=Gr.trans (Gr.trans (Gr.trans G1 G2) Y1) G5
 have N:=(T.gr Y3)
 refine qv rfl (Zx (l:=p2) (c:=Xs.cs) Tryz.underlying252 rfl N)<|qv rfl (Ve (a:=(p2.length:Int)) (b:=64) rfl rfl)<|Qa<|Zv hm rfl (fun c2 hm=>?_) (fun c2 hm=>?_)
 · refine qs 3 rfl<|qv rfl (Zk (cs:=Qq.cs (Qq.mk [] 0#64 [] k0 k0) (.slice none 0 0) (.slice none 0 0)) Hs rfl (by kernel_rfl)) ?_
   have aB:=(B.gr G5)
   refine qe rfl (Qr Jw rfl rfl (Qq.cs_ones _ _ _ rfl rfl) aB rfl rfl) ?_
   rintro _ w7 ⟨aC,M7⟩
   have bl:=M7.size
   refine qm rfl<|qb ?_
   have aD:=(((Gr.refl w).trans Y3).md M7)
   cases hm
   exact⟨_,_,rfl,Xy rfl (Zf Jw rfl aC rfl) (Qn rfl),(.slice none 0 0),0,0,(.slice none 0 0),0,0,rfl,(Za _ 0 195 18),⟨.inl rfl⟩,(Za _ 0 65 2),⟨.inl rfl⟩,⟨(.inl rfl)⟩,aD⟩
 refine qu<|qs 9 rfl ?_
 have aE:=(X.gr G5)
 refine qv rfl (Qu Jr rfl aE rfl)<|qm rfl ?_
 obtain⟨x2,aF,hm⟩:=Qd hm
 refine qe rfl (eC Qb3 rfl (Qal aF N)) ?_
 rintro _ w8 ⟨rfl,G8⟩
 have bm:=G8.size
 refine qn 3 rfl<|qe rfl (Qz (cs:=Xv.cs (Xv.mk 0#8 0 0)) Nl rfl) ?_
 rintro _ w9 ⟨b9,rfl,a2,Y,G9⟩
 have bn:=G9.size
 have a3:=Y.lt
 refine qe rfl (Qr Kf rfl rfl rfl Y rfl rfl) ?_
 rintro _ bo ⟨Z,n⟩
 have bp:=n.size
 refine qm rfl<|Qa<|Qj<|qs 2 rfl<|qm rfl<|qv rfl (Zp (a:=x2.2) (b:=0) rfl rfl) ?_
 refine Qa<|Zv hm rfl (fun c3 hm=>?_) (fun c3 hm=>?_)
 · refine qs 4 rfl<|qv rfl (Zk (cs:=Qq.cs (Qq.mk [] 0#64 [] k0 k0) (.slice none 0 0) (.slice none 0 0)) Hs rfl (by kernel_rfl))<|qm rfl ?_
   have Y4:=Gr.trans (Gr.trans G5 G8) G9
   have aG:=((B.gr Y4).md n)
   refine qe rfl (Qr Jw rfl rfl (Qq.cs_ones _ _ _ rfl rfl) aG rfl rfl) ?_
   rintro _ bq ⟨aa,ab⟩
   have br:=ab.size
   refine qm rfl<|qb ?_
   have aH:=((((((Gr.refl w).trans Y3).trans G8).trans G9).md n).md ab)
   cases hm
   exact⟨_,_,rfl,Xy rfl (Zf Jw rfl aa rfl) (Qn rfl),(.slice none 0 0),0,0,(.slice none 0 0),0,0,rfl,(Za _ 0 195 18),⟨.inl rfl⟩,(Za _ 0 65 2),⟨.inl rfl⟩,⟨(.inl rfl)⟩,aH⟩
 refine qu<|qs 5 rfl ?_
 have Y5:=Gr.trans (Gr.trans (Gr.trans G4 G5) G8) G9
 have ac:=((W.gr Y5).md n)
 refine qv rfl (Qu Qy rfl ac rfl)<|qe rfl (eC Wn rfl (Wm p3 (Xr 53#8) (Wf _) (Wc _) 0#64 _)) ?_
 rintro _ bs ⟨rfl,ad⟩
 have bu:=ad.size
 refine qv rfl (Zk (cs:=Qq.cs (Qq.mk [] 0#64 [] k0 (Ki p3 (Xr 53#8) 0#64)) (.slice none 0 0) (.slice none 0 0)) Hs rfl (by obtain⟨aI,O⟩:=Bf (Ki p3 (Xr 53#8) 0#64);rw[←O];exact(Wa rfl rfl rfl (by kernel_rfl))))<|qe rfl (Qz (cs:=Qq.cs (Qq.mk [] 0#64 [] k0 k0) (.slice none 0 0) (.slice none 0 0)) Gl rfl) ?_
 rintro _ bw ⟨f,rfl,aJ,G,ae⟩
 have bx:=ae.size
 have a4:=G.lt
 refine qe rfl (Qr Jw rfl rfl (Qq.cs_ones _ _ _ rfl rfl) G rfl rfl) ?_
 rintro _ y ⟨af,q⟩
 have bz:=q.size
 refine Qa<|Qj<|qs 3 rfl<|qm rfl ?_
 have Y6:=Gr.trans G8 G9
 have Y7:=Gr.trans ad ae
 have ag:=((((N.gr Y6).md n (Qm M)).gr Y7).md q (Qm M))
 refine qv rfl (Zx (l:=p2) (c:=Xs.cs) Tryz.underlying252 rfl ag)<|qm rfl<|Qa<|Xz ?_
 have aK:=((((((Gr.refl w).trans Y3).trans Y6).md n).trans Y7).md q)
 refine Kb (α:=Nat × Int × List Zc × Value × Nat × Nat) ([15]++rg 41 18) (fun⟨n1,a6,a7,vy8,zy8,gy8⟩=>[(41,.int .i64 a6)]) (fun⟨n1,a6,a7,vy8,zy8,gy8⟩ wr=>(Xq (Qad p0 p2 p3 x2) n1 (a6,a7)=some r)∧Qe wr zy8 gy8 195 18 vy8 (a7.map Zc.cs)∧Xk (zy8=0∨y.heap.size≤gy8)∧Bx wr f 53 (Qq.cs (Qq.mk a7 0#64 [] k0 (Ki p3 (Xr 53#8) 0#64)) vy8 (.slice none 0 0))∧Kz [(1,f)] y wr) (fun⟨n1,a6,a7,vy8,zy8,gy8⟩=>n1) ⟨Ze,0,[],(.slice none 0 0),0,0⟩ ?_ ?_ ?_
 · exact Qh
 · exact⟨hm,(Za _ 0 195 18),⟨(.inl rfl)⟩,af,Kz.refl _ _⟩
 clear hm;rintro⟨n1,a6,a7,vy8,zy8,gy8⟩ bA ⟨hm,g,d,j,o⟩
 have bB:=o.size
 have C:=g.lth
 have a5:=j.lt
 have hb:=Kd hm;clear hm;obtain⟨n1,rfl,hm⟩:=hb
 generalize P:Xq (Qad p0 p2 p3 x2) n1=a8 at hm
 unfold Qad at hm
 try dsimp only at hm
 refine qs 1 rfl<|qv rfl (Jb (a:=a6) (b:=(p2.length:Int)) rfl rfl)<|Qa<|Qj<|Kg hm rfl (fun c4 hm=>?_) (fun c4 hm=>?_)
 · refine Jl<|Zd<|Zd<|Jk<|Zg<|qs 3 rfl ?_
   refine qv rfl (Qu Jw rfl j rfl) ?_
   have Y8:=Gr.trans G5 Y6
   have aL:=(((((B.gr Y8).md n).gr Y7).md q).kz o)
   refine qe rfl (Qr Jw rfl rfl (Qq.cs_ones _ _ _ (Qe.oneB g) rfl) aL rfl rfl) ?_
   rintro _ bC ⟨ah,Q⟩
   have bD:=Q.size
   refine qm rfl<|Qa<|Qs ?_
   have aM:=(g.md Q (Qt d))
   have aN:=((aK.kz o).md Q)
   cases hm
   exact⟨_,_,rfl,Xy rfl (Zf Jw rfl ah rfl) (Qn rfl),vy8,zy8,gy8,(.slice none 0 0),0,0,rfl,aM,⟨(Qk (A:=(fun x=>w.heap.size≤x)) d)⟩,(Za _ 0 65 2),⟨.inl rfl⟩,⟨(.inl rfl)⟩,aN⟩
 refine qu<|Qj<|Xz<|qs 4 rfl ?_
 obtain⟨y9,ai,hm⟩:=Qd hm
 have aj:=(ag.kz o (Qc (Qm (b:=f) M)))
 refine qv rfl (Vm (i:=a6) Tryz.underlying252 (Pc).siz rfl aj rfl ai)<|qv rfl (He Pc rfl aj ai (by first|rfl|omega))<|qe rfl (Qz (cs:=Xs.cs (Xs.mk 0 0)) Qec rfl) ?_
 rintro _ bE ⟨ak,rfl,aO,H,s⟩
 have bF:=s.size
 have a9:=H.lt
 refine qe rfl (Qr Pc rfl rfl rfl H rfl rfl) ?_
 rintro _ bG ⟨al,t⟩
 have bH:=t.size
 refine Qa<|dw [([f]++zf zy8 gy8),([]++zf zy8 gy8)] [(13,[1])] (.leaf [(0,10),(1,11),(2,10),(3,10),(4,10),(5,10),(7,10),(6,0),(8,0),(9,10),(10,0),(11,0),(12,10),(13,0)]) ?_
 intro h u ba
 refine Xo<|qh 0 rfl rfl (Kp.refl ([f]++zf zy8 gy8) h) (fun w hS=>Qg Wq rfl) ?_
 have am:=(((j.gr s).md t).gr u)
 refine qh 1 rfl rfl (Kp.refl ([]++zf zy8 gy8) h) (fun w hS=>Ql (v:=vy8) Wh rfl (Bx.kp am hS (Qc (Qt (b:=f) d))) rfl) ?_
 have an:=(al.gr u)
 refine qh 0 rfl rfl (Kp.refl ([f]++zf zy8 gy8) h) (fun w hS=>Qu Pc rfl (Bx.kp an hS (Qc (Qm (b:=ak) C))) rfl) ?_
 have aP:=((((((Z.gr Y7).md q).kz o).gr s).md t).gr u)
 refine qh 0 rfl rfl (Kp.refl ([f]++zf zy8 gy8) h) (fun w hS=>Qu Kf rfl (Bx.kp aP hS (Qc (Qt (b:=b9) d))) rfl) ?_
 have Y9:=Gr.trans (Gr.trans (Gr.trans G2 Y1) G5) Y6
 have aQ:=((((((((U.gr Y9).md n).gr Y7).md q).kz o).gr s).md t).gr u)
 refine qh 0 rfl rfl (Kp.refl ([f]++zf zy8 gy8) h) (fun w hS=>Qu Qy rfl (Bx.kp aQ hS (Qc (Qt (b:=b1) d))) rfl)<|qh 0 rfl rfl (Kp.refl ([f]++zf zy8 gy8) h) (fun w hS=>Qu Pc rfl (Bx.kp an hS (Qc (Qm (b:=ak) C))) rfl) ?_
 have aR:=((((((ac.gr Y7).md q).kz o).gr s).md t).gr u)
 refine qh 0 rfl rfl (Kp.refl ([f]++zf zy8 gy8) h) (fun w hS=>Qu Qy rfl (Bx.kp aR hS (Qc (Qt (b:=b3) d))) rfl) ?_
 obtain⟨D,ao,hm⟩:=Qd hm
 refine qz [] rfl (eC Qka rfl (Qjr ao)) ⟨fun _=>Qb,fun _=>Qb,trivial⟩ ?_
 rintro _ bI ⟨rfl,R⟩
 have bJ:=R.size
 refine kG R<|qz [] rfl (eC Mm rfl (Al D p3 _)) ⟨fun _=>Qb,fun _=>Qb,trivial⟩ ?_
 rintro _ bK ⟨rfl,S⟩
 have bL:=S.size
 refine kG S ?_
 have E:=Gr.trans R S
 have ap:=((Kp.refl ([f]++zf zy8 gy8) h).gr E)
 refine qh 0 rfl rfl ap (fun w hS=>Zk (cs:=Zc.cs (Zc.mk y9 (Pp D p3))) Qj7 rfl (by obtain⟨aI,O⟩:=Bf (Pp D p3);rw[←O];exact(Wa rfl rfl rfl (Wa rfl rfl rfl (by kernel_rfl)))))<|qz [] rfl (Ko [(Zc.mk y9 (Pp D p3))] Zc.cs Qj9 rfl rfl (Ks rfl) rfl rfl rfl) ⟨fun _=>Qb,fun _=>Qb,trivial⟩ ?_
 rintro bb bM ⟨bc,aS,I,z⟩
 have bN:=z.size
 have bd:=I.lth
 refine kG z ?_
 have aT:=(((((g.gr s).md t (Qm C)).gr u).gr E).gr z)
 obtain⟨aq,ar,hm⟩:=Qd hm
 refine qz [(zy8,gy8)] rfl (Wo (l:=a7) (m:=[(Zc.mk y9 (Pp D p3))]) (c:=Zc.cs) Qj0 rfl rfl aT (Qe.rd I) ar (by decide)) ⟨fun _=>(Qc (Qb:zy8=0∨(gy8=gy8∧zy8≠0)∨h.heap.size≤gy8)),fun _=>(Qc (Qb:zy8=0∨(gy8=gy8∧zy8≠0)∨h.heap.size≤gy8)),trivial⟩ ?_
 rintro J bO ⟨au,av,K,p,be,L⟩
 have bP:=p.size
 refine⟨Kz.ofKa p,?_⟩
 have aU:=((ap.gr z).ka p (Qc (Qb:zy8=0∨(gy8=gy8∧zy8≠0)∨h.heap.size≤gy8)))
 refine qh 0 rfl rfl aU (fun w hS=>Qg Wq rfl) ?_
 have aV:=(((am.gr E).gr z).ka p (Qc (Qt (b:=f) d)))
 refine qz [(1,f)] rfl (Js (cs':=Qq.cs (Qq.mk aq 0#64 [] k0 (Ki p3 (Xr 53#8) 0#64)) J (.slice none 0 0)) (Wh).siz rfl rfl (Qe.oneB K) aV rfl rfl) ⟨fun _=>Qb,nofun,trivial⟩ ?_
 rintro _ aW ⟨aw,F⟩
 have bQ:=F.size
 refine kM F<|Qi<|Zo<|Zg<|qg 2 rfl<|qv rfl (Zy (k:=.i64) (a:=a6) (b:=1) rfl rfl)<|qm rfl ?_
 refine Qi ?_
 have K_56:Kz [(1,f)] y aW:=(((((((o.gr s).md t).gr u).gr E).gr z).ka p (Qc (Qk (A:=(fun x=>y.heap.size≤x)) d))).md F)
 have aX:=(K.md F (Bt L (Qt d)))
 subst P
 exact⟨rfl,⟨n1,Qp (a6+1),aq,J,au,av⟩,Qh,⟨hm,aX,⟨(Yp (A:=(fun x=>y.heap.size≤x)) L (Qk (A:=(fun x=>y.heap.size≤x)) d))⟩,aw,K_56⟩,Nat.lt_succ_self _⟩
end Go.Proofs.YtplcaaglieefgaaGreat.Mx
