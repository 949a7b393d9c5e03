/- Walks that follow mirrors: He. Printed by mx.py. -/
import Derived.Test.YtopkalcefepilaaGreatHd
import Derived.Test.YtopkalcefepilaaGreatZd
set_option linter.unusedVariables false
set_option linter.unusedSimpArgs false
set_option maxRecDepth 100000
set_option maxHeartbeats 2000000
namespace Go.Proofs.YtopkalcefepilaaGreat.Mx
open Go Go.RowKit Go.Sx
theorem Xet {p0 p1 r}(hm:Rc p0 p1=some r){w:World}:
 Calls Tryz.prog 10 [.agg (Zs.cs p0).toArray,bv p1].toArray w fun e w'=>∃ v,e=.returned v∧(v=.agg (Qj.cs r).toArray∧Gr w w'):=by
 unfold Rc at hm
 refine Xi 20 Tryz.func10 rfl rfl rfl<|qs 2 rfl<|qe rfl (Xo (cs:=Zs.cs p0) rfl rfl) ?_
 rintro _ w1 ⟨b1,rfl,o,b,G1⟩
 have z1:=G1.size
 have u:=b.lt
 refine qe rfl (Xg (cs:=Qj.cs (Qj.mk 0#8 0 0 (Jb.mk 0#64 0#64 0#64))) Ar rfl) ?_
 rintro _ w2 ⟨b2,rfl,s,a,G2⟩
 have z3:=G2.size
 have x:=a.lt
 refine qd 6 rfl<|qm rfl<|qv rfl (Qh Qai rfl) ?_
 have B5:=(b.gr G2)
 refine qv rfl (Qi (v:=.int .i64 p0.Depth) Qm rfl B5 rfl)<|qv rfl (Zk (cs:=Qj.cs (Qj.mk p1 p0.Depth 0 (Jb.mk 0#64 0#64 0#64))) Qc5 rfl rfl)<|qe rfl (Xg (cs:=Qj.cs (Qj.mk 0#8 0 0 (Jb.mk 0#64 0#64 0#64))) Ar rfl) ?_
 rintro _ w3 ⟨b3,rfl,t,c,G3⟩
 have z6:=G3.size
 have y:=c.lt
 refine qe rfl (Xf Zq rfl rfl rfl c rfl rfl) ?_
 rintro _ w4 ⟨d,M4⟩
 have z8:=M4.size
 refine Qa<|Qe<|qs 2 rfl<|qm rfl<|qv rfl (Vt (p:=p1) (q:=4#8) rfl rfl)<|Qa ?_
 refine Kx hm rfl (fun c1 hm=>?_) (fun c1 hm=>?_)
 · refine qu<|qs 2 rfl<|qv rfl (Xa Zq rfl d rfl) ?_
   have f:=((a.gr G3).md M4)
   refine qe rfl (Xf Zq rfl rfl rfl f rfl rfl) ?_
   rintro _ w8 ⟨g,M8⟩
   have z:=M8.size
   refine Qa<|Qq ?_
   have h:=((((((Gr.refl w).trans G1).trans G2).trans G3).md M4).md M8)
   cases hm
   exact⟨_,_,rfl,Qz rfl (Zf Zq rfl g rfl),rfl,h⟩
 refine qs 5 rfl<|qv rfl (Qh Qcw rfl) ?_
 have B9:=((B5.gr G3).md M4)
 refine qv rfl (Qi (v:=.int .i64 p0.Revoked) Qm rfl B9 rfl)<|qv rfl (Qim rfl rfl)<|qv rfl (Qh Bo rfl)<|qe rfl (Zp (cs':=Qj.cs (Qj.mk p1 p0.Depth (Yf p0.Revoked 1) (Jb.mk 0#64 0#64 0#64))) (Qm).siz rfl rfl rfl d rfl rfl) ?_
 rintro _ w5 ⟨i,M5⟩
 have A:=M5.size
 refine Qa<|qg 4 rfl<|qv rfl (Qh Qqt rfl) ?_
 have j:=(B9.md M5)
 refine qv rfl (Vk (vs:=Jb.cs p0.Group) Ml rfl j rfl rfl)<|qv rfl (Qh Fa rfl)<|qe rfl (Qab (cs':=Qj.cs (Qj.mk p1 p0.Depth (Yf p0.Revoked 1) p0.Group)) (vs:=Jb.cs p0.Group) (Ml).siz rfl rfl rfl rfl rfl i rfl rfl) ?_
 rintro _ w6 ⟨k,M6⟩
 have B:=M6.size
 refine qd 2 rfl<|qv rfl (Xa Zq rfl k rfl) ?_
 have l:=((((a.gr G3).md M4).md M5).md M6)
 refine qe rfl (Xf Zq rfl rfl rfl l rfl rfl) ?_
 rintro _ w7 ⟨m,M7⟩
 have C:=M7.size
 refine Qa<|Qq ?_
 have n:=((((((((Gr.refl w).trans G1).trans G2).trans G3).md M4).md M5).md M6).md M7)
 cases hm
 exact⟨_,_,rfl,Qz rfl (Zf Zq rfl m rfl),rfl,n⟩
end Go.Proofs.YtopkalcefepilaaGreat.Mx
