/- Several texts in one: OpnTl CipA CipB CipC Ref2 BitL Srt SrtSub MirT MirV SeM TaM HdM HrM HsM GaM HpM GhM GcM HwM TpM JoM Pl Tr Ts Fx Mb Lb Tk Fy. -/
import Derived.Test.YtplcaaglieefgaaGreatZc
import Derived.Test.YtplcaaglieefgaaGreatRows
import Derived.KernelRfl
import Derived.Test.YtplcaaglieefgaaGreatZd
import Derived.Test.YtplcaaglieefgaaGreatZb
import Derived.Shelf.SlSortCmp.NoneTotal
import Derived.Shelf.SlGeneric
import Derived.Test.YtplcaaglieefgaaGreatProg
import Derived.LoopNIn
set_option linter.unusedVariables false
set_option linter.unusedSimpArgs false
set_option maxRecDepth 100000
section
namespace Go.Sx
open Go Go.RowKit Go.Proofs
def iW.ok (x:iW):Prop:=(x.Num.length*4≤140737488351232)∧(x.Den.length*4≤140737488351232)
theorem Xcp {H:Type}{enc:TypeId × Value→H}{W:World}{fuel:Nat}{cs:List Value}{x:DataW H × List MemPlace}(h:Tr enc Tryz.prog W fuel 79 cs x)(hw:Sz Tryz.prog 79 x.1):∃ (m:iW) (v0:Value) (z0 g0 o0:Nat) (v1:Value) (z1 g1 o1:Nat),cs=iW.cs m v0 v1∧Rd W z0 g0 o0 1 v0 (m.Num.map bD)∧Rd W z1 g1 o1 1 v1 (m.Den.map bD)∧iW.ok m:=by
 obtain⟨xs,n,rfl,rfl,hl,hx,hf⟩:=DataW.trod_struct Tryz.underlying79 h;replace hl:cs.length=2:=hl.trans aZ;replace hx:xs.length=2:=hx;obtain⟨y0,e0⟩:=eT (i:=0) hx rfl;have h0:Tr enc Tryz.prog W n 77 ((cs.drop 0).take 1) y0:=gH hf (i:=0) rfl rfl rfl aZ e0;obtain⟨m0,v0_,z0_,g0_,o0_,c0,R0_,k0,l0⟩:=Q8 (c:=bD) (ok:=fun a=>True) (sz:=1) (bytes:=4) Tryz.underlying77 aZ aZ bV (fun _=>⟨rfl,rfl⟩) (fun _ _ _ h=>(let ⟨n,c⟩:=Qnx Tryz.underlying148 h;⟨n,c,trivial⟩)) h0 (J2 Tryz.underlying79 hw (i:=0) rfl (by rw[qS,e0];rfl));obtain⟨y1,e1⟩:=eT (i:=1) hx rfl;have h1:Tr enc Tryz.prog W n 77 ((cs.drop 1).take 1) y1:=gH hf (i:=1) rfl rfl rfl aZ e1;obtain⟨m1,v1_,z1_,g1_,o1_,c1,R1_,k1,l1⟩:=Q8 (c:=bD) (ok:=fun a=>True) (sz:=1) (bytes:=4) Tryz.underlying77 aZ aZ bV (fun _=>⟨rfl,rfl⟩) (fun _ _ _ h=>(let ⟨n,c⟩:=Qnx Tryz.underlying148 h;⟨n,c,trivial⟩)) h1 (J2 Tryz.underlying79 hw (i:=1) rfl (by rw[qS,e1];rfl));have q:=tD hl;replace q:=eH (o:=1) (k:=1) c1 q;replace q:=eH (o:=0) (k:=1) c0 q;exact⟨⟨m0,m1⟩,v0_,z0_,g0_,o0_,v1_,z1_,g1_,o1_,q,R0_,R1_,⟨l0,l1⟩⟩
def fV.ok (x:fV):Prop:=gX x.Users∧gX x.Block∧iW.ok x.Limit
theorem Xcw {H:Type}{enc:TypeId × Value→H}{W:World}{fuel:Nat}{cs:List Value}{x:DataW H × List MemPlace}(h:Tr enc Tryz.prog W fuel 81 cs x)(hw:Sz Tryz.prog 81 x.1):∃ (m:fV) (v0:Value) (z0 g0 o0:Nat) (v1:Value) (z1 g1 o1:Nat),cs=fV.cs m v0 v1∧Rd W z0 g0 o0 1 v0 (m.Limit.Num.map bD)∧Rd W z1 g1 o1 1 v1 (m.Limit.Den.map bD)∧fV.ok m:=by
 obtain⟨xs,n,rfl,rfl,hl,hx,hf⟩:=DataW.trod_struct Tryz.underlying81 h;replace hl:cs.length=20:=hl.trans aZ;replace hx:xs.length=4:=hx;obtain⟨y0,e0⟩:=eT (i:=0) hx rfl;have h0:Tr enc Tryz.prog W n 3 ((cs.drop 0).take 1) y0:=gH hf (i:=0) rfl rfl rfl aZ e0;obtain⟨m0,c0,k0⟩:=gR Tryz.underlying3 h0;obtain⟨y1,e1⟩:=eT (i:=1) hx rfl;have h1:Tr enc Tryz.prog W n 3 ((cs.drop 1).take 1) y1:=gH hf (i:=1) rfl rfl rfl aZ e1;obtain⟨m1,c1,k1⟩:=gR Tryz.underlying3 h1;obtain⟨y2,e2⟩:=eT (i:=2) hx rfl;have h2:Tr enc Tryz.prog W n 36 ((cs.drop 2).take 16) y2:=gH hf (i:=2) rfl rfl rfl aZ e2;obtain⟨m2,c2⟩:=Qnw Tryz.underlying36 Tryz.underlying5 aZ aZ h2;obtain⟨y3,e3⟩:=eT (i:=3) hx rfl;have h3:Tr enc Tryz.prog W n 79 ((cs.drop 18).take 2) y3:=gH hf (i:=3) rfl rfl rfl aZ e3;obtain⟨m3,v0_,z0_,g0_,o0_,v1_,z1_,g1_,o1_,c3,R0_,R1_,k3⟩:=Xcp h3 (J2 Tryz.underlying81 hw (i:=3) rfl (by rw[qS,e3];rfl));have q:=tD hl;replace q:=eH (o:=18) (k:=2) c3 q;replace q:=eH (o:=2) (k:=16) c2 q;replace q:=eH (o:=1) (k:=1) c1 q;replace q:=eH (o:=0) (k:=1) c0 q;exact⟨⟨m0,m1,m2,m3⟩,v0_,z0_,g0_,o0_,v1_,z1_,g1_,o1_,q,R0_,R1_,⟨k0,k1,k3⟩⟩
def cG.ok (x:cG):Prop:=gX x.Price
theorem Xct {H:Type}{enc:TypeId × Value→H}{W:World}{fuel:Nat}{cs:List Value}{x:DataW H × List MemPlace}(h:Tr enc Tryz.prog W fuel 211 cs x):∃ (m:cG),cs=cG.cs m∧cG.ok m:=by
 obtain⟨xs,n,rfl,rfl,hl,hx,hf⟩:=DataW.trod_struct Tryz.underlying211 h;replace hl:cs.length=4:=hl.trans aZ;replace hx:xs.length=4:=hx;obtain⟨y0,e0⟩:=eT (i:=0) hx rfl;have h0:Tr enc Tryz.prog W n 5 ((cs.drop 0).take 1) y0:=gH hf (i:=0) rfl rfl rfl aZ e0;obtain⟨m0,c0⟩:=S3 Tryz.underlying5 h0;obtain⟨y1,e1⟩:=eT (i:=1) hx rfl;have h1:Tr enc Tryz.prog W n 5 ((cs.drop 1).take 1) y1:=gH hf (i:=1) rfl rfl rfl aZ e1;obtain⟨m1,c1⟩:=S3 Tryz.underlying5 h1;obtain⟨y2,e2⟩:=eT (i:=2) hx rfl;have h2:Tr enc Tryz.prog W n 3 ((cs.drop 2).take 1) y2:=gH hf (i:=2) rfl rfl rfl aZ e2;obtain⟨m2,c2,k2⟩:=gR Tryz.underlying3 h2;obtain⟨y3,e3⟩:=eT (i:=3) hx rfl;have h3:Tr enc Tryz.prog W n 4 ((cs.drop 3).take 1) y3:=gH hf (i:=3) rfl rfl rfl aZ e3;obtain⟨m3,c3⟩:=Qnv Tryz.underlying4 h3;have q:=tD hl;replace q:=eH (o:=3) (k:=1) c3 q;replace q:=eH (o:=2) (k:=1) c2 q;replace q:=eH (o:=1) (k:=1) c1 q;replace q:=eH (o:=0) (k:=1) c0 q;exact⟨⟨m0,m1,m2,m3⟩,q,k2⟩
def bK.ok (x:bK):Prop:=gX x.Receiver∧gX x.Account∧gX x.Home∧gX x.Met
theorem Xco {H:Type}{enc:TypeId × Value→H}{W:World}{fuel:Nat}{cs:List Value}{x:DataW H × List MemPlace}(h:Tr enc Tryz.prog W fuel 91 cs x):∃ (m:bK),cs=bK.cs m∧bK.ok m:=by
 obtain⟨xs,n,rfl,rfl,hl,hx,hf⟩:=DataW.trod_struct Tryz.underlying91 h;replace hl:cs.length=7:=hl.trans aZ;replace hx:xs.length=7:=hx;obtain⟨y0,e0⟩:=eT (i:=0) hx rfl;have h0:Tr enc Tryz.prog W n 3 ((cs.drop 0).take 1) y0:=gH hf (i:=0) rfl rfl rfl aZ e0;obtain⟨m0,c0,k0⟩:=gR Tryz.underlying3 h0;obtain⟨y1,e1⟩:=eT (i:=1) hx rfl;have h1:Tr enc Tryz.prog W n 3 ((cs.drop 1).take 1) y1:=gH hf (i:=1) rfl rfl rfl aZ e1;obtain⟨m1,c1,k1⟩:=gR Tryz.underlying3 h1;obtain⟨y2,e2⟩:=eT (i:=2) hx rfl;have h2:Tr enc Tryz.prog W n 5 ((cs.drop 2).take 1) y2:=gH hf (i:=2) rfl rfl rfl aZ e2;obtain⟨m2,c2⟩:=S3 Tryz.underlying5 h2;obtain⟨y3,e3⟩:=eT (i:=3) hx rfl;have h3:Tr enc Tryz.prog W n 5 ((cs.drop 3).take 1) y3:=gH hf (i:=3) rfl rfl rfl aZ e3;obtain⟨m3,c3⟩:=S3 Tryz.underlying5 h3;obtain⟨y4,e4⟩:=eT (i:=4) hx rfl;have h4:Tr enc Tryz.prog W n 3 ((cs.drop 4).take 1) y4:=gH hf (i:=4) rfl rfl rfl aZ e4;obtain⟨m4,c4,k4⟩:=gR Tryz.underlying3 h4;obtain⟨y5,e5⟩:=eT (i:=5) hx rfl;have h5:Tr enc Tryz.prog W n 3 ((cs.drop 5).take 1) y5:=gH hf (i:=5) rfl rfl rfl aZ e5;obtain⟨m5,c5,k5⟩:=gR Tryz.underlying3 h5;obtain⟨y6,e6⟩:=eT (i:=6) hx rfl;have h6:Tr enc Tryz.prog W n 4 ((cs.drop 6).take 1) y6:=gH hf (i:=6) rfl rfl rfl aZ e6;obtain⟨m6,c6⟩:=Qnv Tryz.underlying4 h6;have q:=tD hl;replace q:=eH (o:=6) (k:=1) c6 q;replace q:=eH (o:=5) (k:=1) c5 q;replace q:=eH (o:=4) (k:=1) c4 q;replace q:=eH (o:=3) (k:=1) c3 q;replace q:=eH (o:=2) (k:=1) c2 q;replace q:=eH (o:=1) (k:=1) c1 q;replace q:=eH (o:=0) (k:=1) c0 q;exact⟨⟨m0,m1,m2,m3,m4,m5,m6⟩,q,⟨k0,k1,k4,k5⟩⟩
def dQ.ok (x:dQ):Prop:=gX x.Account∧gX x.Product∧gX x.From∧gX x.To
theorem Xcq {H:Type}{enc:TypeId × Value→H}{W:World}{fuel:Nat}{cs:List Value}{x:DataW H × List MemPlace}(h:Tr enc Tryz.prog W fuel 220 cs x):∃ (m:dQ),cs=dQ.cs m∧dQ.ok m:=by
 obtain⟨xs,n,rfl,rfl,hl,hx,hf⟩:=DataW.trod_struct Tryz.underlying220 h;replace hl:cs.length=4:=hl.trans aZ;replace hx:xs.length=4:=hx;obtain⟨y0,e0⟩:=eT (i:=0) hx rfl;have h0:Tr enc Tryz.prog W n 3 ((cs.drop 0).take 1) y0:=gH hf (i:=0) rfl rfl rfl aZ e0;obtain⟨m0,c0,k0⟩:=gR Tryz.underlying3 h0;obtain⟨y1,e1⟩:=eT (i:=1) hx rfl;have h1:Tr enc Tryz.prog W n 3 ((cs.drop 1).take 1) y1:=gH hf (i:=1) rfl rfl rfl aZ e1;obtain⟨m1,c1,k1⟩:=gR Tryz.underlying3 h1;obtain⟨y2,e2⟩:=eT (i:=2) hx rfl;have h2:Tr enc Tryz.prog W n 3 ((cs.drop 2).take 1) y2:=gH hf (i:=2) rfl rfl rfl aZ e2;obtain⟨m2,c2,k2⟩:=gR Tryz.underlying3 h2;obtain⟨y3,e3⟩:=eT (i:=3) hx rfl;have h3:Tr enc Tryz.prog W n 3 ((cs.drop 3).take 1) y3:=gH hf (i:=3) rfl rfl rfl aZ e3;obtain⟨m3,c3,k3⟩:=gR Tryz.underlying3 h3;have q:=tD hl;replace q:=eH (o:=3) (k:=1) c3 q;replace q:=eH (o:=2) (k:=1) c2 q;replace q:=eH (o:=1) (k:=1) c1 q;replace q:=eH (o:=0) (k:=1) c0 q;exact⟨⟨m0,m1,m2,m3⟩,q,⟨k0,k1,k2,k3⟩⟩
def cL.ok (x:cL):Prop:=gX x.Account∧gX x.Product∧gX x.Epoch∧gX x.Price
theorem Xcu {H:Type}{enc:TypeId × Value→H}{W:World}{fuel:Nat}{cs:List Value}{x:DataW H × List MemPlace}(h:Tr enc Tryz.prog W fuel 215 cs x):∃ (m:cL),cs=cL.cs m∧cL.ok m:=by
 obtain⟨xs,n,rfl,rfl,hl,hx,hf⟩:=DataW.trod_struct Tryz.underlying215 h;replace hl:cs.length=4:=hl.trans aZ;replace hx:xs.length=4:=hx;obtain⟨y0,e0⟩:=eT (i:=0) hx rfl;have h0:Tr enc Tryz.prog W n 3 ((cs.drop 0).take 1) y0:=gH hf (i:=0) rfl rfl rfl aZ e0;obtain⟨m0,c0,k0⟩:=gR Tryz.underlying3 h0;obtain⟨y1,e1⟩:=eT (i:=1) hx rfl;have h1:Tr enc Tryz.prog W n 3 ((cs.drop 1).take 1) y1:=gH hf (i:=1) rfl rfl rfl aZ e1;obtain⟨m1,c1,k1⟩:=gR Tryz.underlying3 h1;obtain⟨y2,e2⟩:=eT (i:=2) hx rfl;have h2:Tr enc Tryz.prog W n 3 ((cs.drop 2).take 1) y2:=gH hf (i:=2) rfl rfl rfl aZ e2;obtain⟨m2,c2,k2⟩:=gR Tryz.underlying3 h2;obtain⟨y3,e3⟩:=eT (i:=3) hx rfl;have h3:Tr enc Tryz.prog W n 3 ((cs.drop 3).take 1) y3:=gH hf (i:=3) rfl rfl rfl aZ e3;obtain⟨m3,c3,k3⟩:=gR Tryz.underlying3 h3;have q:=tD hl;replace q:=eH (o:=3) (k:=1) c3 q;replace q:=eH (o:=2) (k:=1) c2 q;replace q:=eH (o:=1) (k:=1) c1 q;replace q:=eH (o:=0) (k:=1) c0 q;exact⟨⟨m0,m1,m2,m3⟩,q,⟨k0,k1,k2,k3⟩⟩
def dA.ok (x:dA):Prop:=gX x.Account∧gX x.Title∧gX x.Until∧gX x.Plays
theorem Xcs {H:Type}{enc:TypeId × Value→H}{W:World}{fuel:Nat}{cs:List Value}{x:DataW H × List MemPlace}(h:Tr enc Tryz.prog W fuel 247 cs x):∃ (m:dA),cs=dA.cs m∧dA.ok m:=by
 obtain⟨xs,n,rfl,rfl,hl,hx,hf⟩:=DataW.trod_struct Tryz.underlying247 h;replace hl:cs.length=4:=hl.trans aZ;replace hx:xs.length=4:=hx;obtain⟨y0,e0⟩:=eT (i:=0) hx rfl;have h0:Tr enc Tryz.prog W n 3 ((cs.drop 0).take 1) y0:=gH hf (i:=0) rfl rfl rfl aZ e0;obtain⟨m0,c0,k0⟩:=gR Tryz.underlying3 h0;obtain⟨y1,e1⟩:=eT (i:=1) hx rfl;have h1:Tr enc Tryz.prog W n 3 ((cs.drop 1).take 1) y1:=gH hf (i:=1) rfl rfl rfl aZ e1;obtain⟨m1,c1,k1⟩:=gR Tryz.underlying3 h1;obtain⟨y2,e2⟩:=eT (i:=2) hx rfl;have h2:Tr enc Tryz.prog W n 3 ((cs.drop 2).take 1) y2:=gH hf (i:=2) rfl rfl rfl aZ e2;obtain⟨m2,c2,k2⟩:=gR Tryz.underlying3 h2;obtain⟨y3,e3⟩:=eT (i:=3) hx rfl;have h3:Tr enc Tryz.prog W n 3 ((cs.drop 3).take 1) y3:=gH hf (i:=3) rfl rfl rfl aZ e3;obtain⟨m3,c3,k3⟩:=gR Tryz.underlying3 h3;have q:=tD hl;replace q:=eH (o:=3) (k:=1) c3 q;replace q:=eH (o:=2) (k:=1) c2 q;replace q:=eH (o:=1) (k:=1) c1 q;replace q:=eH (o:=0) (k:=1) c0 q;exact⟨⟨m0,m1,m2,m3⟩,q,⟨k0,k1,k2,k3⟩⟩
def kJ.ok (x:kJ):Prop:=gX x.a0∧gX x.a1∧gX x.a2∧gX x.a3∧gX x.a4∧gX x.a5∧gX x.a6∧gX x.a7∧gX x.a8∧gX x.a9∧gX x.a10∧gX x.a11∧gX x.a12∧gX x.a13∧gX x.a14∧gX x.a15
theorem Xcm {H:Type}{enc:TypeId × Value→H}{W:World}{fuel:Nat}{cs:List Value}{x:DataW H × List MemPlace}(h:Tr enc Tryz.prog W fuel 32 cs x):∃ (m:kJ),cs=kJ.cs m∧kJ.ok m:=by
 obtain⟨xs,n,rfl,rfl,hl,hx,hf⟩:=DataW.trod_array Tryz.underlying32 h;replace hl:cs.length=16:=hl.trans aZ;replace hx:xs.length=16:=hx;obtain⟨y0,e0⟩:=eT (i:=0) hx rfl;have h0:Tr enc Tryz.prog W n 3 ((cs.drop 0).take 1) y0:=oV hf (i:=0) bV aZ rfl e0;obtain⟨m0,c0,k0⟩:=gR Tryz.underlying3 h0;obtain⟨y1,e1⟩:=eT (i:=1) hx rfl;have h1:Tr enc Tryz.prog W n 3 ((cs.drop 1).take 1) y1:=oV hf (i:=1) bV aZ rfl e1;obtain⟨m1,c1,k1⟩:=gR Tryz.underlying3 h1;obtain⟨y2,e2⟩:=eT (i:=2) hx rfl;have h2:Tr enc Tryz.prog W n 3 ((cs.drop 2).take 1) y2:=oV hf (i:=2) bV aZ rfl e2;obtain⟨m2,c2,k2⟩:=gR Tryz.underlying3 h2;obtain⟨y3,e3⟩:=eT (i:=3) hx rfl;have h3:Tr enc Tryz.prog W n 3 ((cs.drop 3).take 1) y3:=oV hf (i:=3) bV aZ rfl e3;obtain⟨m3,c3,k3⟩:=gR Tryz.underlying3 h3;obtain⟨y4,e4⟩:=eT (i:=4) hx rfl;have h4:Tr enc Tryz.prog W n 3 ((cs.drop 4).take 1) y4:=oV hf (i:=4) bV aZ rfl e4;obtain⟨m4,c4,k4⟩:=gR Tryz.underlying3 h4;obtain⟨y5,e5⟩:=eT (i:=5) hx rfl;have h5:Tr enc Tryz.prog W n 3 ((cs.drop 5).take 1) y5:=oV hf (i:=5) bV aZ rfl e5;obtain⟨m5,c5,k5⟩:=gR Tryz.underlying3 h5;obtain⟨y6,e6⟩:=eT (i:=6) hx rfl;have h6:Tr enc Tryz.prog W n 3 ((cs.drop 6).take 1) y6:=oV hf (i:=6) bV aZ rfl e6;obtain⟨m6,c6,k6⟩:=gR Tryz.underlying3 h6;obtain⟨y7,e7⟩:=eT (i:=7) hx rfl;have h7:Tr enc Tryz.prog W n 3 ((cs.drop 7).take 1) y7:=oV hf (i:=7) bV aZ rfl e7;obtain⟨m7,c7,k7⟩:=gR Tryz.underlying3 h7;obtain⟨y8,e8⟩:=eT (i:=8) hx rfl;have h8:Tr enc Tryz.prog W n 3 ((cs.drop 8).take 1) y8:=oV hf (i:=8) bV aZ rfl e8;obtain⟨m8,c8,k8⟩:=gR Tryz.underlying3 h8;obtain⟨y9,e9⟩:=eT (i:=9) hx rfl;have h9:Tr enc Tryz.prog W n 3 ((cs.drop 9).take 1) y9:=oV hf (i:=9) bV aZ rfl e9;obtain⟨m9,c9,k9⟩:=gR Tryz.underlying3 h9;obtain⟨y10,e10⟩:=eT (i:=10) hx rfl;have h10:Tr enc Tryz.prog W n 3 ((cs.drop 10).take 1) y10:=oV hf (i:=10) bV aZ rfl e10;obtain⟨m10,c10,k10⟩:=gR Tryz.underlying3 h10;obtain⟨y11,e11⟩:=eT (i:=11) hx rfl;have h11:Tr enc Tryz.prog W n 3 ((cs.drop 11).take 1) y11:=oV hf (i:=11) bV aZ rfl e11;obtain⟨m11,c11,k11⟩:=gR Tryz.underlying3 h11;obtain⟨y12,e12⟩:=eT (i:=12) hx rfl;have h12:Tr enc Tryz.prog W n 3 ((cs.drop 12).take 1) y12:=oV hf (i:=12) bV aZ rfl e12;obtain⟨m12,c12,k12⟩:=gR Tryz.underlying3 h12;obtain⟨y13,e13⟩:=eT (i:=13) hx rfl;have h13:Tr enc Tryz.prog W n 3 ((cs.drop 13).take 1) y13:=oV hf (i:=13) bV aZ rfl e13;obtain⟨m13,c13,k13⟩:=gR Tryz.underlying3 h13;obtain⟨y14,e14⟩:=eT (i:=14) hx rfl;have h14:Tr enc Tryz.prog W n 3 ((cs.drop 14).take 1) y14:=oV hf (i:=14) bV aZ rfl e14;obtain⟨m14,c14,k14⟩:=gR Tryz.underlying3 h14;obtain⟨y15,e15⟩:=eT (i:=15) hx rfl;have h15:Tr enc Tryz.prog W n 3 ((cs.drop 15).take 1) y15:=oV hf (i:=15) bV aZ rfl e15;obtain⟨m15,c15,k15⟩:=gR Tryz.underlying3 h15;have q:=tD hl;replace q:=eH (o:=15) (k:=1) c15 q;replace q:=eH (o:=14) (k:=1) c14 q;replace q:=eH (o:=13) (k:=1) c13 q;replace q:=eH (o:=12) (k:=1) c12 q;replace q:=eH (o:=11) (k:=1) c11 q;replace q:=eH (o:=10) (k:=1) c10 q;replace q:=eH (o:=9) (k:=1) c9 q;replace q:=eH (o:=8) (k:=1) c8 q;replace q:=eH (o:=7) (k:=1) c7 q;replace q:=eH (o:=6) (k:=1) c6 q;replace q:=eH (o:=5) (k:=1) c5 q;replace q:=eH (o:=4) (k:=1) c4 q;replace q:=eH (o:=3) (k:=1) c3 q;replace q:=eH (o:=2) (k:=1) c2 q;replace q:=eH (o:=1) (k:=1) c1 q;replace q:=eH (o:=0) (k:=1) c0 q;exact⟨⟨m0,m1,m2,m3,m4,m5,m6,m7,m8,m9,m10,m11,m12,m13,m14,m15⟩,q,⟨k0,k1,k2,k3,k4,k5,k6,k7,k8,k9,k10,k11,k12,k13,k14,k15⟩⟩
def bS.ok (x:bS):Prop:=((∀ a∈x.Products,cG.ok a)∧x.Products.length*24≤140737488351232)∧((∀ a∈x.Cards,bK.ok a)∧x.Cards.length*48≤140737488351232)∧((∀ a∈x.Grants,dQ.ok a)∧x.Grants.length*32≤140737488351232)∧((∀ a∈x.Sales,cL.ok a)∧x.Sales.length*32≤140737488351232)∧((∀ a∈x.Licences,dA.ok a)∧x.Licences.length*32≤140737488351232)∧kJ.ok x.Credits
theorem Xcn {H:Type}{enc:TypeId × Value→H}{W:World}{fuel:Nat}{cs:List Value}{x:DataW H × List MemPlace}(h:Tr enc Tryz.prog W fuel 34 cs x)(hw:Sz Tryz.prog 34 x.1):∃ (m:bS) (v0:Value) (z0 g0 o0:Nat) (v1:Value) (z1 g1 o1:Nat) (v2:Value) (z2 g2 o2:Nat) (v3:Value) (z3 g3 o3:Nat) (v4:Value) (z4 g4 o4:Nat),cs=bS.cs m v0 v1 v2 v3 v4∧Rd W z0 g0 o0 4 v0 (m.Products.map cG.cs)∧Rd W z1 g1 o1 7 v1 (m.Cards.map bK.cs)∧Rd W z2 g2 o2 4 v2 (m.Grants.map dQ.cs)∧Rd W z3 g3 o3 4 v3 (m.Sales.map cL.cs)∧Rd W z4 g4 o4 4 v4 (m.Licences.map dA.cs)∧bS.ok m:=by
 obtain⟨xs,n,rfl,rfl,hl,hx,hf⟩:=DataW.trod_struct Tryz.underlying34 h;replace hl:cs.length=21:=hl.trans aZ;replace hx:xs.length=6:=hx;obtain⟨y0,e0⟩:=eT (i:=0) hx rfl;have h0:Tr enc Tryz.prog W n 27 ((cs.drop 0).take 1) y0:=gH hf (i:=0) rfl rfl rfl aZ e0;obtain⟨m0,v0_,z0_,g0_,o0_,c0,R0_,k0,l0⟩:=Q8 (c:=cG.cs) (ok:=fun a=>cG.ok a) (sz:=4) (bytes:=24) Tryz.underlying27 aZ aZ bV (fun _=>⟨rfl,rfl⟩) (fun _ _ _ h=>Xct h) h0 (J2 Tryz.underlying34 hw (i:=0) rfl (by rw[qS,e0];rfl));obtain⟨y1,e1⟩:=eT (i:=1) hx rfl;have h1:Tr enc Tryz.prog W n 28 ((cs.drop 1).take 1) y1:=gH hf (i:=1) rfl rfl rfl aZ e1;obtain⟨m1,v1_,z1_,g1_,o1_,c1,R1_,k1,l1⟩:=Q8 (c:=bK.cs) (ok:=fun a=>bK.ok a) (sz:=7) (bytes:=48) Tryz.underlying28 aZ aZ bV (fun _=>⟨rfl,rfl⟩) (fun _ _ _ h=>Xco h) h1 (J2 Tryz.underlying34 hw (i:=1) rfl (by rw[qS,e1];rfl));obtain⟨y2,e2⟩:=eT (i:=2) hx rfl;have h2:Tr enc Tryz.prog W n 29 ((cs.drop 2).take 1) y2:=gH hf (i:=2) rfl rfl rfl aZ e2;obtain⟨m2,v2_,z2_,g2_,o2_,c2,R2_,k2,l2⟩:=Q8 (c:=dQ.cs) (ok:=fun a=>dQ.ok a) (sz:=4) (bytes:=32) Tryz.underlying29 aZ aZ bV (fun _=>⟨rfl,rfl⟩) (fun _ _ _ h=>Xcq h) h2 (J2 Tryz.underlying34 hw (i:=2) rfl (by rw[qS,e2];rfl));obtain⟨y3,e3⟩:=eT (i:=3) hx rfl;have h3:Tr enc Tryz.prog W n 30 ((cs.drop 3).take 1) y3:=gH hf (i:=3) rfl rfl rfl aZ e3;obtain⟨m3,v3_,z3_,g3_,o3_,c3,R3_,k3,l3⟩:=Q8 (c:=cL.cs) (ok:=fun a=>cL.ok a) (sz:=4) (bytes:=32) Tryz.underlying30 aZ aZ bV (fun _=>⟨rfl,rfl⟩) (fun _ _ _ h=>Xcu h) h3 (J2 Tryz.underlying34 hw (i:=3) rfl (by rw[qS,e3];rfl));obtain⟨y4,e4⟩:=eT (i:=4) hx rfl;have h4:Tr enc Tryz.prog W n 31 ((cs.drop 4).take 1) y4:=gH hf (i:=4) rfl rfl rfl aZ e4;obtain⟨m4,v4_,z4_,g4_,o4_,c4,R4_,k4,l4⟩:=Q8 (c:=dA.cs) (ok:=fun a=>dA.ok a) (sz:=4) (bytes:=32) Tryz.underlying31 aZ aZ bV (fun _=>⟨rfl,rfl⟩) (fun _ _ _ h=>Xcs h) h4 (J2 Tryz.underlying34 hw (i:=4) rfl (by rw[qS,e4];rfl));obtain⟨y5,e5⟩:=eT (i:=5) hx rfl;have h5:Tr enc Tryz.prog W n 32 ((cs.drop 5).take 16) y5:=gH hf (i:=5) rfl rfl rfl aZ e5;obtain⟨m5,c5,k5⟩:=Xcm h5;have q:=tD hl;replace q:=eH (o:=5) (k:=16) c5 q;replace q:=eH (o:=4) (k:=1) c4 q;replace q:=eH (o:=3) (k:=1) c3 q;replace q:=eH (o:=2) (k:=1) c2 q;replace q:=eH (o:=1) (k:=1) c1 q;replace q:=eH (o:=0) (k:=1) c0 q;exact⟨⟨m0,m1,m2,m3,m4,m5⟩,v0_,z0_,g0_,o0_,v1_,z1_,g1_,o1_,v2_,z2_,g2_,o2_,v3_,z3_,g3_,o3_,v4_,z4_,g4_,o4_,q,R0_,R1_,R2_,R3_,R4_,⟨⟨k0,l0⟩,⟨k1,l1⟩,⟨k2,l2⟩,⟨k3,l3⟩,⟨k4,l4⟩,k5⟩⟩
theorem Xcr {H:Type}{enc:TypeId × Value→H}{W:World}{fuel:Nat}{cs:List Value}{x:DataW H × List MemPlace}(h:Tr enc Tryz.prog W fuel 24 cs x):∃ (m:iK),cs=iK.cs m:=by
 obtain⟨xs,n,rfl,rfl,hl,hx,hf⟩:=DataW.trod_struct Tryz.underlying24 h;replace hl:cs.length=3:=hl.trans aZ;replace hx:xs.length=3:=hx;obtain⟨y0,e0⟩:=eT (i:=0) hx rfl;have h0:Tr enc Tryz.prog W n 22 ((cs.drop 0).take 1) y0:=gH hf (i:=0) rfl rfl rfl aZ e0;obtain⟨m0,c0⟩:=Qf3 Tryz.underlying22 h0;obtain⟨y1,e1⟩:=eT (i:=1) hx rfl;have h1:Tr enc Tryz.prog W n 22 ((cs.drop 1).take 1) y1:=gH hf (i:=1) rfl rfl rfl aZ e1;obtain⟨m1,c1⟩:=Qf3 Tryz.underlying22 h1;obtain⟨y2,e2⟩:=eT (i:=2) hx rfl;have h2:Tr enc Tryz.prog W n 22 ((cs.drop 2).take 1) y2:=gH hf (i:=2) rfl rfl rfl aZ e2;obtain⟨m2,c2⟩:=Qf3 Tryz.underlying22 h2;have q:=tD hl;replace q:=eH (o:=2) (k:=1) c2 q;replace q:=eH (o:=1) (k:=1) c1 q;replace q:=eH (o:=0) (k:=1) c0 q;exact⟨⟨m0,m1,m2⟩,q⟩
def bX.ok (x:bX):Prop:=gX x.Depth∧gX x.Degree
theorem Xcv {H:Type}{enc:TypeId × Value→H}{W:World}{fuel:Nat}{cs:List Value}{x:DataW H × List MemPlace}(h:Tr enc Tryz.prog W fuel 49 cs x):∃ (m:bX),cs=bX.cs m∧bX.ok m:=by
 obtain⟨xs,n,rfl,rfl,hl,hx,hf⟩:=DataW.trod_struct Tryz.underlying49 h;replace hl:cs.length=6:=hl.trans aZ;replace hx:xs.length=4:=hx;obtain⟨y0,e0⟩:=eT (i:=0) hx rfl;have h0:Tr enc Tryz.prog W n 5 ((cs.drop 0).take 1) y0:=gH hf (i:=0) rfl rfl rfl aZ e0;obtain⟨m0,c0⟩:=S3 Tryz.underlying5 h0;obtain⟨y1,e1⟩:=eT (i:=1) hx rfl;have h1:Tr enc Tryz.prog W n 3 ((cs.drop 1).take 1) y1:=gH hf (i:=1) rfl rfl rfl aZ e1;obtain⟨m1,c1,k1⟩:=gR Tryz.underlying3 h1;obtain⟨y2,e2⟩:=eT (i:=2) hx rfl;have h2:Tr enc Tryz.prog W n 3 ((cs.drop 2).take 1) y2:=gH hf (i:=2) rfl rfl rfl aZ e2;obtain⟨m2,c2,k2⟩:=gR Tryz.underlying3 h2;obtain⟨y3,e3⟩:=eT (i:=3) hx rfl;have h3:Tr enc Tryz.prog W n 24 ((cs.drop 3).take 3) y3:=gH hf (i:=3) rfl rfl rfl aZ e3;obtain⟨m3,c3⟩:=Xcr h3;have q:=tD hl;replace q:=eH (o:=3) (k:=3) c3 q;replace q:=eH (o:=2) (k:=1) c2 q;replace q:=eH (o:=1) (k:=1) c1 q;replace q:=eH (o:=0) (k:=1) c0 q;exact⟨⟨m0,m1,m2,m3⟩,q,⟨k1,k2⟩⟩
end Go.Sx

end
section
namespace Go.Proofs.YtplcaaglieefgaaGreat
open Go Go.RowKit Go.Sx
theorem Qcg:CV Tryz.prog 3 177 .u64:=fun _ _ _=>aZ
theorem uR:ZV Tryz.prog 326 (.agg [.int .u64 0,.int .u64 0].toArray):=fun _=>aZ
theorem xJ:FA Tryz.prog 326 0 0:=fun _ _ _=>aZ
theorem cO:gV Tryz.prog 22:=fun _=>⟨ aZ,aZ⟩
theorem vG:FA Tryz.prog 326 1 1:=fun _ _ _=>aZ
theorem Cb:En Tryz.prog 307:=fun _ _=>aZ
theorem Qbu:BS Tryz.prog 326 (fun i=>[(0,1),(1,1)][i]?) [.int .u64 0,.int .u64 0]:=lP Tryz.underlying326 uR ⟨rfl,(cO).siz,rfl,(cO).siz,trivial⟩
theorem kE:gG Tryz.prog 326 2:=fun _=>⟨ aZ,aZ⟩
theorem Qv:CV Tryz.prog 5 22 .u64:=fun _ _ _=>aZ
theorem dP:gV Tryz.prog 5:=fun _=>⟨ aZ,aZ⟩
theorem vT:CV Tryz.prog 22 5 .u8:=fun _ _ _=>aZ
theorem iI:ZV Tryz.prog 36 (.agg [.int .u8 0,.int .u8 0,.int .u8 0,.int .u8 0,.int .u8 0,.int .u8 0,.int .u8 0,.int .u8 0,.int .u8 0,.int .u8 0,.int .u8 0,.int .u8 0,.int .u8 0,.int .u8 0,.int .u8 0,.int .u8 0].toArray):=fun _=>aZ
theorem bC:gG Tryz.prog 36 16:=fun _=>⟨ aZ,aZ⟩
abbrev pv (p:W2):Value:=.agg [wv p.1,wv p.2].toArray
set_option maxHeartbeats 1000000 in
theorem Ew (x:BitVec 64)(k:Int)(s:Nat)(hs:s<64)(hk:bits .and .u64 (IntKind.u64.wrap k) 63=(s:Int))(w:World):
 Calls Tryz.prog 307 [wv x,.int .i64 k].toArray w fun e w'=>∃ v,e=.returned v∧(v=wv (qW x s)∧Gr w w'):=by
 refine bP 17 Tryz.func307 rfl rfl rfl<|qs 1 rfl<|qv rfl (fX rfl)<|qd 4 rfl<|qv rfl (aA rfl)<|qv rfl (wV Qcg rfl)<|qv rfl (dL (yK bW rfl rfl) (show _=Value.int .u64 (s:Int) from by rw[hk]))<|qv rfl (fX rfl)<|qd 9 rfl<|qv rfl (aA rfl)<|qv rfl (aA rfl)<|qv rfl (Lc rfl rfl aQ)<|qv rfl (aA rfl)<|qv rfl (aA rfl)<|qv rfl (dL (fL rfl rfl) (show _=Value.int .u64 ((64-s:Nat):Int) from by rw[IntKind.wrap_u64];congr 1;omega))<|qv rfl (Io rfl rfl aQ)<|qv rfl (wW rfl rfl)<|qv rfl (fX rfl)<|aX<|aF ?_;refine⟨_,_,rfl,pY rfl rfl,?_⟩;exact⟨by simp[qW],(Gr.refl w)⟩
set_option maxHeartbeats 1000000 in
theorem Qp7 (p:W2)(k:BitVec 64)(w:World):
 Calls Tryz.prog 228 [pv p,wv k].toArray w fun e w'=>∃ v,e=.returned v∧(v=pv (nC p k)∧Gr w w'):=by
 refine bP 21 Tryz.func228 rfl rfl rfl<|qs 2 rfl<|qe rfl (bR rfl (by rfl)) ?_;rintro _ w1 ⟨b1,rfl,hbw1,Bw1,Gw1⟩;have z1:=Gw1.size;have lt2:=Bw1.lt;refine qe rfl (bB uR (by rfl)) ?_;rintro _ w2 ⟨b2,rfl,hbw2,Bw2,Gw2⟩;have z3:=Gw2.size;have lt4:=Bw2.lt;refine aX<|aD<|Nh [] [(0,3),(1,3),(3,3),(4,3),(6,3),(2,0),(5,3),(7,3),(8,3)] aZ aZ rfl aZ ?_;intro w3 Gw3 zw3;refine fK rfl rfl rfl (Kp.refl [] w3) (fun w hS=>aP xJ rfl) ?_;have B5:=(Bx.gr (Bx.gr Bw1 Gw2) Gw3);refine fK rfl rfl rfl (Kp.refl [] w3) (fun w hS=>aS cO rfl (Bx.kp B5 hS (by simp<;>first|omega|(split<;>omega))) (by rfl))<|fK rfl rfl rfl (Kp.refl [] w3) (fun w hS=>aP vG rfl)<|fK rfl rfl rfl (Kp.refl [] w3) (fun w hS=>aS cO rfl (Bx.kp B5 hS (by simp<;>first|omega|(split<;>omega))) (by rfl))<|fK rfl rfl rfl (Kp.refl [] w3) (fun w hS=>aA rfl)<|Bc rfl rfl rfl (mP Cb rfl (Ew _ (-8) 56 bV bV _)) ?_
 rintro _ w4 ⟨rfl,Gw4⟩;have z6:=Gw4.size;refine⟨Gw4,?_⟩;have S7:=(Kp.gr (Kp.refl [] w3) Gw4);refine fK rfl rfl rfl S7 (fun w hS=>oL rfl rfl)<|fK rfl rfl rfl S7 (fun w hS=>It rfl rfl)<|fK rfl rfl rfl S7 (fun w hS=>fX rfl)<|qd 8 rfl<|qv rfl (aA rfl)<|qv rfl (aP vG rfl) ?_;have B8:=(Bx.gr B5 Gw4);refine qv rfl (aS cO rfl B8 (by rfl))<|qe rfl (mP Cb rfl (Ew _ (3) 3 bV bV _)) ?_;rintro _ w5 ⟨rfl,Gw5⟩;have z9:=Gw5.size;refine qv rfl (aA rfl)<|qv rfl (It rfl rfl)<|qv rfl (dJ Qbu rfl rfl) ?_;have B10:=(Bx.gr (Bx.gr (Bx.gr Bw2 Gw3) Gw4) Gw5);refine qe rfl (pU (kE).siz rfl rfl (by rfl) (by rfl) (by rfl) B10 (by rfl)) ?_;rintro _ w6 ⟨Bw6,Mw6⟩;have z11:=Mw6.size;refine aX<|aF ?_;have X12:=(Gr.md (Gr.trans (Gr.trans (Gr.trans (Gr.trans (Gr.trans (Gr.refl w) Gw1) Gw2) Gw3) Gw4) Gw5) Mw6 aQ);refine⟨_,_,rfl,Z6 rfl kE rfl Bw6 (by rfl),?_⟩;exact⟨rfl,X12⟩
set_option maxHeartbeats 1000000 in
theorem Qsb (p:W2)(k:BitVec 64)(w:World):
 Calls Tryz.prog 295 [pv p,wv k].toArray w fun e w'=>∃ v,e=.returned v∧(v=pv (rH p k)∧Gr w w'):=by
 refine bP 21 Tryz.func295 rfl rfl rfl<|qs 2 rfl<|qe rfl (bR rfl (by rfl)) ?_;rintro _ w1 ⟨b1,rfl,hbw1,Bw1,Gw1⟩;have z1:=Gw1.size;have lt2:=Bw1.lt;refine qe rfl (bB uR (by rfl)) ?_;rintro _ w2 ⟨b2,rfl,hbw2,Bw2,Gw2⟩;have z3:=Gw2.size;have lt4:=Bw2.lt;refine qd 7 rfl<|qv rfl (aP xJ rfl) ?_;have B5:=(Bx.gr Bw1 Gw2);refine qv rfl (aS cO rfl B5 (by rfl))<|qv rfl (aP vG rfl)<|qv rfl (aS cO rfl B5 (by rfl))<|qv rfl (It rfl rfl)<|qe rfl (mP Cb rfl (Ew _ (-3) 61 bV bV _)) ?_;rintro _ w3 ⟨rfl,Gw3⟩;have z6:=Gw3.size;refine qv rfl (fX rfl)<|qd 10 rfl<|qv rfl (aP xJ rfl) ?_;have B7:=(Bx.gr B5 Gw3);refine qv rfl (aS cO rfl B7 (by rfl))<|qv rfl (aA rfl)<|qv rfl (It rfl rfl)<|qv rfl (aA rfl)<|qv rfl (Vi rfl rfl)<|qe rfl (mP Cb rfl (Ew _ (8) 8 bV bV _)) ?_;rintro _ w4 ⟨rfl,Gw4⟩;have z8:=Gw4.size;refine qv rfl (aA rfl)<|qv rfl (dJ Qbu rfl rfl) ?_;have B9:=(Bx.gr (Bx.gr Bw2 Gw3) Gw4);refine qe rfl (pU (kE).siz rfl rfl (by rfl) (by rfl) (by rfl) B9 (by rfl)) ?_;rintro _ w5 ⟨Bw5,Mw5⟩;have z10:=Mw5.size;refine aX<|aF ?_;have X11:=(Gr.md (Gr.trans (Gr.trans (Gr.trans (Gr.trans (Gr.refl w) Gw1) Gw2) Gw3) Gw4) Mw5 aQ);refine⟨_,_,rfl,Z6 rfl kE rfl Bw5 (by rfl),?_⟩;exact⟨rfl,X11⟩
set_option maxHeartbeats 1000000 in
theorem Qh9 (p:W2)(w:World):
 Calls Tryz.prog 226 [kv p].toArray w fun e w'=>∃ v,e=.returned v∧(v=pv p∧Gr w w'):=by
 refine bP 29 Tryz.func226 rfl rfl rfl<|qs 2 rfl<|qe rfl (bR rfl (by rfl)) ?_;rintro _ w1 ⟨b1,rfl,hbw1,Bw1,Gw1⟩;have z1:=Gw1.size;have lt2:=Bw1.lt;refine qe rfl (bB uR (by rfl)) ?_;rintro _ w2 ⟨b2,rfl,hbw2,Bw2,Gw2⟩;have z3:=Gw2.size;have lt4:=Bw2.lt;refine qd 1 rfl<|qe rfl (bB uR (by rfl)) ?_;rintro _ w3 ⟨b3,rfl,hbw3,Bw3,Gw3⟩;have z5:=Gw3.size;have lt6:=Bw3.lt;refine aX<|aD<|qs 1 rfl<|qv rfl (aA rfl)<|aX<|bH ?_;have X7:=(Gr.trans (Gr.trans (Gr.trans (Gr.refl w) Gw1) Gw2) Gw3);refine dN (α:=Nat) [4,5,6,7,8,9,10,11,12,13,14,15,16,17,18,19,20,21,22,23,24,25,26,27] (fun k=>[(5,.int .i64 (k:Int))]) (fun k wr=>(k≤8)∧Bx wr b3 326 ([wv (p.1 >>> (64-8*k)),wv (p.2 >>> (64-8*k))])∧Kp [b3] w3 wr) (fun k=>8-k) (0) ?_ ?_ ?_
 · exact aR
 · exact⟨aQ,(by rw[uO,I1,Qgg,Qgg];exact Bw3),Kp.refl _ _⟩
 rintro k w4 ⟨hk,Bw4_b3,Kw4⟩;have z8:=Kw4.size;refine qs 1 rfl<|qv rfl (cN rfl rfl)<|aX<|aD<|lY rfl (fun h1=>?_) (fun h1=>?_)
 · -- h1 True
   replace h1:=iX h1;refine qu<|aD<|bH<|qs 2 rfl<|qv rfl (aA rfl)<|qv rfl (fX rfl)<|aX<|Nh [b3] [(0,3),(1,1),(2,3),(3,3),(4,3),(5,3),(6,3),(7,3),(8,3),(9,1),(10,3),(11,3),(12,3),(13,3),(14,3),(15,3),(16,3),(17,3),(18,2),(19,3),(20,2)] aZ aZ rfl aZ ?_;intro w5 Gw5 zw5;refine fK rfl rfl rfl (Kp.refl [b3] w5) (fun w hS=>aP xJ rfl) ?_;have B9:=(Bx.gr Bw4_b3 Gw5);refine Qci rfl rfl rfl (Gr.refl w5) (fun w hS=>aS cO rfl (Bx.gr B9 hS) (by rfl))<|fK rfl rfl rfl (Kp.refl [b3] w5) (fun w hS=>Lc rfl rfl aQ)<|fK rfl rfl rfl (Kp.refl [b3] w5) (fun w hS=>aA rfl)<|fK rfl rfl rfl (Kp.refl [b3] w5) (fun w hS=>yV Tryz.underlying36 (dP).siz rfl rfl aQ aQ) ?_;have B10:=(Bx.gr (Bx.kp (Bx.gr (Bx.gr Bw1 Gw2) Gw3) Kw4 (by simp<;>first|omega|(split<;>omega))) Gw5)
   refine fK rfl rfl rfl (Kp.refl [b3] w5) (fun w hS=>aS dP rfl (Bx.kp B10 hS (by simp<;>first|omega|(split<;>omega))) (by exact Xa9 p k aQ))<|fK rfl rfl rfl (Kp.refl [b3] w5) (fun w hS=>Ig Qv rfl (Qin _ _) (by have:=Qim p.1 k;omega))<|fK rfl rfl rfl (Kp.refl [b3] w5) (fun w hS=>wW rfl rfl)<|fK rfl rfl rfl (Kp.refl [b3] w5) (fun w hS=>aP vG rfl)<|Qci rfl rfl rfl (Gr.refl w5) (fun w hS=>aS cO rfl (Bx.gr B9 hS) (by rfl))<|fK rfl rfl rfl (Kp.refl [b3] w5) (fun w hS=>Lc rfl rfl aQ)<|fK rfl rfl rfl (Kp.refl [b3] w5) (fun w hS=>aA rfl)<|fK rfl rfl rfl (Kp.refl [b3] w5) (fun w hS=>kX rfl rfl aQ aQ)<|fK rfl rfl rfl (Kp.refl [b3] w5) (fun w hS=>yV Tryz.underlying36 (dP).siz rfl rfl aQ aQ)<|fK rfl rfl rfl (Kp.refl [b3] w5) (fun w hS=>aS dP rfl (Bx.kp B10 hS (by simp<;>first|omega|(split<;>omega))) (by exact Xa8 p k aQ))<|fK rfl rfl rfl (Kp.refl [b3] w5) (fun w hS=>Ig Qv rfl (Qin _ _) (by have:=Qim p.2 k;omega))<|fK rfl rfl rfl (Kp.refl [b3] w5) (fun w hS=>wW rfl rfl)<|fK rfl rfl rfl (Kp.refl [b3] w5) (fun w hS=>aP xJ rfl)<|Qx (b:=b3) rfl rfl rfl rfl (Xg (cO).siz rfl rfl rfl B9 bW) (by first|exact Or.inl bW|exact Or.inr aQ) ?_
   rintro _ w6 ⟨Bw6,Mw6⟩;have z11:=Mw6.size;refine⟨Mw6,?_⟩;have S12:=(Kp.md (Kp.refl [b3] w5) Mw6 (by first|exact Or.inl bW|exact Or.inr aQ))
   refine fK rfl rfl rfl S12 (fun w hS=>aP vG rfl)<|Qx (b:=b3) rfl rfl rfl rfl (Xg (cO).siz rfl rfl rfl Bw6 bW) (by first|exact Or.inl bW|exact Or.inr aQ) ?_
   rintro _ w7 ⟨Bw7,Mw7⟩;have z13:=Mw7.size;refine⟨Mw7,?_⟩;refine aB<|bE<|bY<|qg 2 rfl<|qv rfl (kX rfl rfl aQ aQ)<|qv rfl (aA rfl)<|aB ?_;have K_14:=(Kp.md (Kp.md (Kp.gr Kw4 Gw5) Mw6 (by simp<;>first|omega|(split<;>omega))) Mw7 (by simp<;>first|omega|(split<;>omega)))
   refine⟨rfl,k+1,?_,⟨?_,?_,K_14⟩,?_⟩
   · exact aR
   · omega
   · rw[←Ab _ k aQ,←Ab _ k aQ];exact Bw7
   first|omega|(dsimp only;omega)
 replace h1:=oX h1;refine cE<|bL<|bL<|cB<|bY<|qs 2 rfl<|qv rfl (bZ kE rfl Bw4_b3 (by rfl)) ?_;have B15:=(Bx.kp (Bx.gr Bw2 Gw3) Kw4 (by simp<;>first|omega|(split<;>omega)))
 refine qe rfl (pU (kE).siz rfl rfl (by rfl) (by rfl) (by rfl) B15 (by rfl)) ?_;rintro _ w8 ⟨Bw8,Mw8⟩;have z16:=Mw8.size;refine aX<|aF ?_;obtain rfl:k=8:=by omega
 have X17:=(Gr.md (Gr.kp X7 Kw4 (by simp<;>first|omega|(split<;>omega))) Mw8 aQ)
 refine⟨_,_,rfl,Z6 rfl kE rfl Bw8 (by rfl),?_⟩;exact⟨rfl,X17⟩
set_option maxHeartbeats 1000000 in
theorem Qbq (p:W2)(w:World):
 Calls Tryz.prog 229 [pv p].toArray w fun e w'=>∃ v,e=.returned v∧(v=kv p∧Gr w w'):=by
 refine bP 29 Tryz.func229 rfl rfl rfl<|qs 2 rfl<|qe rfl (bR rfl (by rfl)) ?_;rintro _ w1 ⟨b1,rfl,hbw1,Bw1,Gw1⟩;have z1:=Gw1.size;have lt2:=Bw1.lt;refine qe rfl (bB iI (by rfl)) ?_;rintro _ w2 ⟨b2,rfl,hbw2,Bw2,Gw2⟩;have z3:=Gw2.size;have lt4:=Bw2.lt;refine qd 1 rfl<|qe rfl (bB iI (by rfl)) ?_;rintro _ w3 ⟨b3,rfl,hbw3,Bw3,Gw3⟩;have z5:=Gw3.size;have lt6:=Bw3.lt;refine aX<|aD<|qs 1 rfl<|qv rfl (aA rfl)<|aX<|bH ?_;have X7:=(Gr.trans (Gr.trans (Gr.trans (Gr.refl w) Gw1) Gw2) Gw3);refine dN (α:=Nat) [4,5,6,7,8,9,10,11,12,13,14,15,16,17,18,19,20,21,22,23,24,25,26,27] (fun k=>[(5,.int .i64 (k:Int))]) (fun k wr=>(k≤8)∧Bx wr b3 36 (xD p k)∧Kp [b3] w3 wr) (fun k=>8-k) (0) ?_ ?_ ?_
 · exact aR
 · exact⟨aQ,(by rw[Xak];exact Bw3),Kp.refl _ _⟩
 rintro k w4 ⟨hk,Bw4_b3,Kw4⟩;have z8:=Kw4.size;refine qs 1 rfl<|qv rfl (cN rfl rfl)<|aX<|aD<|lY rfl (fun h1=>?_) (fun h1=>?_)
 · -- h1 True
   replace h1:=iX h1;refine qu<|aD<|bH<|qs 2 rfl<|qv rfl (aA rfl)<|qv rfl (fX rfl)<|aX<|Nh [b3] [(0,3),(1,3),(2,3),(3,3),(4,3),(5,3),(6,3),(7,3),(8,3),(9,3),(10,3),(11,3),(12,3),(13,3),(14,3),(15,3),(16,3),(17,3),(18,2),(19,3),(20,2)] aZ aZ rfl aZ ?_;intro w5 Gw5 zw5;refine fK rfl rfl rfl (Kp.refl [b3] w5) (fun w hS=>aA rfl)<|fK rfl rfl rfl (Kp.refl [b3] w5) (fun w hS=>aA rfl)<|fK rfl rfl rfl (Kp.refl [b3] w5) (fun w hS=>kX rfl rfl aQ aQ)<|fK rfl rfl rfl (Kp.refl [b3] w5) (fun w hS=>aP xJ rfl) ?_;have B9:=(Bx.gr (Bx.kp (Bx.gr (Bx.gr Bw1 Gw2) Gw3) Kw4 (by simp<;>first|omega|(split<;>omega))) Gw5)
   refine fK rfl rfl rfl (Kp.refl [b3] w5) (fun w hS=>aS cO rfl (Bx.kp B9 hS (by simp<;>first|omega|(split<;>omega))) (by rfl))<|fK rfl rfl rfl (Kp.refl [b3] w5) (fun w hS=>aA rfl)<|fK rfl rfl rfl (Kp.refl [b3] w5) (fun w hS=>Qr6 rfl rfl aQ aQ)<|fK rfl rfl rfl (Kp.refl [b3] w5) (fun w hS=>Qh7 rfl rfl aQ aQ)<|fK rfl rfl rfl (Kp.refl [b3] w5) (fun w hS=>Io rfl rfl aQ)<|fK rfl rfl rfl (Kp.refl [b3] w5) (fun w hS=>Qqt vT rfl)<|fK rfl rfl rfl (Kp.refl [b3] w5) (fun w hS=>aP vG rfl)<|fK rfl rfl rfl (Kp.refl [b3] w5) (fun w hS=>aS cO rfl (Bx.kp B9 hS (by simp<;>first|omega|(split<;>omega))) (by rfl))<|fK rfl rfl rfl (Kp.refl [b3] w5) (fun w hS=>aA rfl)<|fK rfl rfl rfl (Kp.refl [b3] w5) (fun w hS=>Qr6 rfl rfl aQ aQ)<|fK rfl rfl rfl (Kp.refl [b3] w5) (fun w hS=>Qh7 rfl rfl aQ aQ)<|fK rfl rfl rfl (Kp.refl [b3] w5) (fun w hS=>Io rfl rfl aQ)<|fK rfl rfl rfl (Kp.refl [b3] w5) (fun w hS=>Qqt vT rfl)<|fK rfl rfl rfl (Kp.refl [b3] w5) (fun w hS=>yV Tryz.underlying36 (dP).siz rfl rfl aQ aQ) ?_
   have B10:=(Bx.gr Bw4_b3 Gw5);refine Qx (b:=b3) rfl rfl rfl rfl (Xg (dP).siz rfl rfl rfl B10 (by rw[Qmq];omega)) (by first|exact Or.inl bW|exact Or.inr aQ) ?_
   rintro _ w6 ⟨Bw6,Mw6⟩;have z11:=Mw6.size;refine⟨Mw6,?_⟩;have S12:=(Kp.md (Kp.refl [b3] w5) Mw6 (by first|exact Or.inl bW|exact Or.inr aQ))
   refine fK rfl rfl rfl S12 (fun w hS=>yV Tryz.underlying36 (dP).siz rfl rfl aQ aQ)<|Qx (b:=b3) rfl rfl rfl rfl (Xg (dP).siz rfl rfl rfl Bw6 (by rw[Ym,Qmq];omega)) (by first|exact Or.inl bW|exact Or.inr aQ) ?_
   rintro _ w7 ⟨Bw7,Mw7⟩;have z13:=Mw7.size;refine⟨Mw7,?_⟩;refine aB<|bE<|bY<|qg 2 rfl<|qv rfl (kX rfl rfl aQ aQ)<|qv rfl (aA rfl)<|aB ?_;have K_14:=(Kp.md (Kp.md (Kp.gr Kw4 Gw5) Mw6 (by simp<;>first|omega|(split<;>omega))) Mw7 (by simp<;>first|omega|(split<;>omega)))
   refine⟨rfl,k+1,?_,⟨?_,?_,K_14⟩,?_⟩
   · exact aR
   · omega
   · rw[←Xal p k aQ];exact Bw7
   first|omega|(dsimp only;omega)
 replace h1:=oX h1;refine cE<|bL<|bL<|cB<|bY<|aD ?_;obtain rfl:k=8:=by omega
 refine qg 2 rfl<|qv rfl (bZ bC rfl Bw4_b3 (by rfl)) ?_;have B15:=(Bx.kp (Bx.gr Bw2 Gw3) Kw4 (by simp<;>first|omega|(split<;>omega)))
 refine qe rfl (pU (bC).siz rfl rfl (by rfl) (by rfl) (by rfl) B15 (by rfl)) ?_;rintro _ w8 ⟨Bw8,Mw8⟩;have z16:=Mw8.size;refine aX<|aF ?_;have X17:=(Gr.md (Gr.kp X7 Kw4 (by simp<;>first|omega|(split<;>omega))) Mw8 aQ)
 refine⟨_,_,rfl,Z6 rfl bC rfl Bw8 (by rfl),?_⟩;exact⟨rfl,X17⟩
end Go.Proofs.YtplcaaglieefgaaGreat

end
section
namespace Go.Proofs.YtplcaaglieefgaaGreat
open Go Go.RowKit Go.Sx
theorem Hk:En Tryz.prog 226:=fun _ _=>aZ
theorem mM:CV Tryz.prog 3 22 .u64:=fun _ _ _=>aZ
theorem Qjw:En Tryz.prog 228:=fun _ _=>aZ
theorem Qjv:En Tryz.prog 227:=fun _ _=>aZ
theorem Qk3:En Tryz.prog 306:=fun _ _=>aZ
theorem Qct:En Tryz.prog 229:=fun _ _=>aZ
def vC (k:W2):List (List Value):=(List.range 32).map fun(i:Nat)=>[.int .i64 (i:Int),wv (ks k i).2]
theorem Pw (k:W2):(vC k).length=32:=by simp[vC]
theorem Qmf (k:W2)(i:Nat)(h:i<32):(vC k)[i]? = some [.int .i64 (i:Int),wv (ks k i).2]:=by simp[vC,h]
set_option maxHeartbeats 1000000 in
theorem Qmj (k:W2)(b:Nat)(w0:World)(hb:Bx w0 b 36 (kb k)):
 IT Tryz.prog 306 [.pointer (some ⟨b,0,none⟩)] (vC k) [b] w0:=by
 intro l J Jx w fp hG hJ hJx hcap h0 hY;have Bc0:=Bx.gr hb hG;have lt1:=Bc0.lt;refine bP 21 Tryz.func306 rfl rfl rfl<|qs 4 rfl<|qv rfl (bZ bC rfl Bc0 (by rfl))<|qe rfl (mP Hk rfl (Qh9 _ _)) ?_;rintro _ w1 ⟨rfl,Gw1⟩;have z2:=Gw1.size;refine qe rfl (bB uR (by rfl)) ?_;rintro _ w2 ⟨b2,rfl,hbw2,Bw2,Gw2⟩;have z3:=Gw2.size;have lt4:=Bw2.lt;refine qe rfl (pU (kE).siz rfl rfl (by rfl) (by rfl) (by rfl) Bw2 (by rfl)) ?_;rintro _ w3 ⟨Bw3,Mw3⟩;have z5:=Mw3.size;refine qd 1 rfl<|qv rfl (aA rfl)<|aX<|bH ?_;have hz0:b2∉fp:=fun h=>by have:=hJ.lt h0 b2 h;omega
 have hk0:Kp fp w w3:=((Gr.toKp Gw1).gr Gw2).md Mw3 (.inr aQ);have hj0:J 0 fp w3:=hJ.md (hJ.gr (hJ.gr h0 Gw1) Gw2) Mw3 hz0;have B6:=(Bx.md (Bx.gr (Bx.gr Bc0 Gw1) Gw2) Mw3 aQ);refine dN (α:=Nat) [4,7,8,9,10,11,12,13,14,15,16,17,18,19,20] (fun i=>[(7,.int .i64 (i:Int))]) (fun i wr=>(i≤32∧∃ f,J i f wr∧Kp fp w wr∧(∀ c∈f,c∈fp∨w.heap.size≤c)∧b∉f∧b2∉f)∧Bx wr b 36 (kb k)∧Bx wr b2 326 ([wv (ks k i).1,wv (ks k i).2])∧True) (fun i=>32-i) (0) ?_ ?_ ?_
 · exact aR
 · exact⟨⟨aQ,fp,hj0,hk0,fun c hc=>.inl hc,hcap b bW,hz0⟩,B6,Bw3,trivial⟩
 rintro i w4 ⟨⟨hi,f,hj,hk,hf,hbf,hpf⟩,Bw4_b,Bw4_b2,Kw4⟩;have lt7:=Bw4_b.lt;have lt8:=Bw4_b2.lt;refine qs 1 rfl<|qv rfl (cN rfl rfl)<|aX<|aD<|lY rfl (fun h1=>?_) (fun h1=>?_)
 · -- h1 True
   replace h1:=iX h1;refine qu<|aD<|bH<|qs 2 rfl<|qv rfl (aA rfl)<|qv rfl (fX rfl)<|aX<|aD<|qs 6 rfl<|qv rfl (aA rfl)<|qv rfl (aA rfl)<|qv rfl (aP vG rfl)<|qv rfl (aS cO rfl Bw4_b2 (by rfl))<|qe rfl (T5 rfl rfl (hY i _ f _ (Qmf k i aQ) hj hk hf)) ?_;rintro _ w5 ⟨y1,rfl,Kw5,fw5,Fw5,Jw5⟩;have z9:=Kw5.size;have hk5:Kp fp w w5:=hk.trans Kw5 hf;have hf5:=uN hf Fw5 hk.size;have hn2:b2∉fw5:=gF Fw5 hpf lt8;refine qv rfl (eF rfl)<|aX<|lY rfl (fun h2=>?_) (fun h2=>?_)
   · -- h2 True
     replace h2:=Xc2 h2;subst h2;refine aF<|bA<|dS<|bA<|bA<|dS<|⟨_,_,rfl,lO rfl,?_⟩;exact⟨hk5,.inr ⟨i+1,fw5,hf5,by rw[Pw];omega,Jw5⟩⟩
   replace h2:=Xc1 h2;subst h2;refine qu<|qg 5 rfl ?_;have B10:=(Bx.kp Bw4_b2 Kw5 hpf);refine qv rfl (bZ kE rfl B10 (by rfl))<|qv rfl (aA rfl)<|qv rfl (Ig mM rfl aQ aQ)<|qe rfl (mP Qjw rfl (Qp7 _ _ _)) ?_;rintro _ w6 ⟨rfl,Gw6⟩;have z11:=Gw6.size;have B12:=(Bx.gr B10 Gw6);refine qe rfl (pU (kE).siz rfl rfl (by rfl) (by rfl) (by rfl) B12 (by rfl)) ?_;rintro _ w7 ⟨Bw7,Mw7⟩;have z13:=Mw7.size;refine aB<|bE<|bY<|qg 2 rfl<|qv rfl (kX rfl rfl aQ aQ)<|qv rfl (aA rfl)<|aB ?_;have B15:=(Bx.md (Bx.gr (Bx.kp Bw4_b Kw5 hbf) Gw6) Mw7 aQ);refine⟨rfl,i+1,?_,⟨?_,?_,?_,trivial⟩,?_⟩
   · exact aR
   · exact⟨aQ,fw5,hJ.md (hJ.gr Jw5 Gw6) Mw7 hn2,(hk5.gr Gw6).md Mw7 (.inr aQ),hf5,gF Fw5 hbf lt7,hn2⟩
   · exact B15
   · exact Bw7
   first|omega|(dsimp only;omega)
 replace h1:=oX h1;refine cE<|bL<|bL<|cB<|⟨_,_,rfl,lO rfl,?_⟩;obtain rfl:i=32:=by omega
 exact⟨hk,.inl ⟨f,hf,by rw[Pw];exact hj⟩⟩
set_option maxHeartbeats 1000000 in
theorem Qmi (k:W2)(w:World):
 Calls Tryz.prog 227 [kv k].toArray w fun e w'=>∃ v,e=.returned v∧(∃ b,v=.func (.func 306) #[] [.pointer (some ⟨b,0,none⟩)].toArray∧w.heap.size≤b∧Bx w' b 36 (kb k)∧Gr w w'):=by
 refine bP 4 Tryz.func227 rfl rfl rfl<|qs 2 rfl<|qe rfl (bR rfl (by rfl)) ?_;rintro _ w1 ⟨b1,rfl,hbw1,Bw1,Gw1⟩;have z1:=Gw1.size;have lt2:=Bw1.lt;refine qv rfl (fX rfl)<|qd 2 rfl<|qv rfl (kZ rfl rfl)<|qv rfl (fX rfl)<|aX<|aF ?_;have X3:=(Gr.trans (Gr.refl w) Gw1);refine⟨_,_,rfl,pY rfl rfl,?_⟩;exact⟨b1,rfl,hbw1,Bw1,X3⟩
def Hn (k b:W2)(n:Nat):W2:=(List.range n).foldl (fun p i=>nC p (ks k i).2) b
theorem Qy3 (k b:W2)(n:Nat):Hn k b (n+1)=nC (Hn k b n) (ks k n).2:=by simp[Hn,W7]
theorem Qmg {k:W2}{i:Nat}{x:List Value}(h:(vC k)[i]? = some x):i<32∧x=[.int .i64 (i:Int),wv (ks k i).2]:=by
 have hi:i<32:=by have:=(jP.1 h).1;rwa[Pw] at this
 rw[Qmf k i hi] at h;exact⟨hi,by simpa using h.symm⟩
theorem Qmh (k:W2):∀ x∈vC k,x.length=2:=by intro x hx;simp[vC] at hx;obtain⟨i,_,rfl⟩:=hx;rfl
set_option maxHeartbeats 1000000 in
theorem Qd6 (k b:W2)(w:World):
 Calls Tryz.prog 123 [kv k,kv b].toArray w fun e w'=>∃ v,e=.returned v∧(v=kv (mH k b)∧Gr w w'):=by
 refine bP 19 Tryz.func123 rfl rfl rfl<|qs 3 rfl<|qe rfl (bR rfl (by rfl)) ?_;rintro _ w1 ⟨b1,rfl,hbw1,Bw1,Gw1⟩;have z1:=Gw1.size;have lt2:=Bw1.lt;refine qe rfl (bR rfl (by rfl)) ?_;rintro _ w2 ⟨b2,rfl,hbw2,Bw2,Gw2⟩;have z3:=Gw2.size;have lt4:=Bw2.lt;refine qe rfl (bB iI (by rfl)) ?_;rintro _ w3 ⟨b3,rfl,hbw3,Bw3,Gw3⟩;have z5:=Gw3.size;have lt6:=Bw3.lt;refine qd 4 rfl ?_;have B7:=(Bx.gr Bw2 Gw3);refine qv rfl (bZ bC rfl B7 (by rfl))<|qe rfl (mP Hk rfl (Qh9 _ _)) ?_;rintro _ w4 ⟨rfl,Gw4⟩;have z8:=Gw4.size;refine qe rfl (bB uR (by rfl)) ?_;rintro _ w5 ⟨b5,rfl,hbw5,Bw5,Gw5⟩;have z9:=Gw5.size;have lt10:=Bw5.lt;refine qe rfl (pU (kE).siz rfl rfl (by rfl) (by rfl) (by rfl) Bw5 (by rfl)) ?_;rintro _ w6 ⟨Bw6,Mw6⟩;have z11:=Mw6.size;refine aX<|aD<|qs 2 rfl ?_;have B12:=(Bx.md (Bx.gr (Bx.gr (Bx.gr (Bx.gr Bw1 Gw2) Gw3) Gw4) Gw5) Mw6 aQ);refine qv rfl (bZ bC rfl B12 (by rfl))<|qe rfl (mP Qjv rfl (Qmi _ _)) ?_;rintro _ w7 ⟨b7,rfl,hb7,Bk7,Gw7⟩;have z13:=Gw7.size;have lt14:=Bk7.lt;refine aX<|bH ?_;have X15:=(Gr.trans (Gr.md (Gr.trans (Gr.trans (Gr.trans (Gr.trans (Gr.trans (Gr.refl w) Gw1) Gw2) Gw3) Gw4) Gw5) Mw6 aQ) Gw7);have B16:=(Bx.gr Bw6 Gw7);refine yZ (gf:=306) (xs:=vC k) (cap:=[b7]) rfl Qk3 (Qmj k b7 _ Bk7) (Qmh k) rfl (fun rk fp W=>fp=[b5]∧Bx W b5 326 ([wv (Hn k b rk).1,wv (Hn k b rk).2])) (fun _ _ _ _=>False) [b5] (Qpy _ _ _) (fun _=>Va) (by simp<;>omega) (⟨rfl,B16⟩) ?_ ?_ ?_
 · rintro l rk x fp w8 hl hx ⟨rfl,Bw8⟩ Kw8 hF hln dX;have z17:=Kw8.size;obtain⟨hi,rfl⟩:=Qmg hx;refine qg 1 rfl<|qv rfl (fX rfl)<|aB<|⟨rfl,(Gr.refl _),?_⟩;rintro w9 Mw9 ⟨_,Bw9⟩;have z18:=Mw9.size;refine bH<|qg 4 rfl<|qv rfl (bZ kE rfl Bw9 (by rfl))<|qv rfl (aA rfl)<|qe rfl (mP Qjw rfl (Qp7 _ _ _)) ?_;rintro _ w10 ⟨rfl,Gw10⟩;have z19:=Gw10.size;have B20:=(Bx.gr Bw9 Gw10);refine qe rfl (pU (kE).siz rfl rfl (by rfl) (by rfl) (by rfl) B20 (by rfl)) ?_;rintro _ w11 ⟨Bw11,Mw11⟩;have z21:=Mw11.size;refine aB<|bE<|⟨(Kp.md (Kp.gr (Kp.refl _ _) Gw10) Mw11 (by first|exact Or.inl bW|exact Or.inr aQ)),_,fun c hc=>.inl hc,?_⟩
   exact⟨rfl,by rw[Qy3];exact Bw11⟩
 · rintro Dw12 fp w12 hDw12 Dfw12 nw12 ⟨rfl,Bw12⟩ Kw12;have z22:=Kw12.size;have lt22:=Df.lt (w:=w12) Dfw12;rw[Pw] at Bw12;refine bE<|bY<|qs 3 rfl<|qv rfl (bZ kE rfl Bw12 (by rfl))<|qe rfl (mP Qct rfl (Qbq _ _)) ?_;rintro _ w13 ⟨rfl,Gw13⟩;have z23:=Gw13.size;have B24:=(Bx.gr (Bx.kp (Bx.gr (Bx.md (Bx.gr (Bx.gr Bw3 Gw4) Gw5) Mw6 aQ) Gw7) Kw12 (by simp<;>first|omega|(split<;>omega))) Gw13)
   refine qe rfl (pU (bC).siz rfl rfl (by rfl) (by rfl) (by rfl) B24 (by rfl)) ?_;rintro _ w14 ⟨Bw14,Mw14⟩;have z25:=Mw14.size;refine aX<|aF ?_;have DL26:=(Df.md (Df.gr Dfw12 Gw13) Mw14 aQ);have L26:=Md.put (w:=w14) Dw12 (.deferred none);have zL26:=L26.size;have B27:=(Bx.md Bw14 L26 aQ);have X28:Gr w (w14.putObj Dw12 (.deferred none)):=(Gr.md (Gr.md (Gr.trans (Gr.kp X15 Kw12 (by simp<;>first|omega|(split<;>omega))) Gw13) Mw14 aQ) L26 aQ)
   refine⟨_,_,⟨Dw12,rfl,DL26,rfl⟩,Z6 rfl bC rfl B27 (by rfl),?_⟩;exact⟨rfl,X28⟩
 rintro _ _ _ _ _ _ _ _ _ h _;exact h.elim
end Go.Proofs.YtplcaaglieefgaaGreat

end
section
namespace Go.Proofs.YtplcaaglieefgaaGreat
open Go Go.RowKit Go.Sx
theorem Qvg:En Tryz.prog 124:=fun _ _=>aZ
theorem Bm:En Tryz.prog 123:=fun _ _=>aZ
theorem Xjo:ZV Tryz.prog 374 (.agg [.int .u64 0,.int .u64 0,.int .u64 0,.int .u64 0,.int .u64 0,.int .u64 0,.int .u64 0,.int .u64 0,.int .u64 0,.int .u64 0,.int .u64 0,.int .u64 0,.int .u64 0,.int .u64 0,.int .u64 0,.int .u64 0,.int .u64 0,.int .u64 0,.int .u64 0,.int .u64 0,.int .u64 0,.int .u64 0,.int .u64 0,.int .u64 0,.int .u64 0,.int .u64 0,.int .u64 0,.int .u64 0,.int .u64 0,.int .u64 0,.int .u64 0,.int .u64 0].toArray):=fun _=>aZ
theorem Qwz:En Tryz.prog 295:=fun _ _=>aZ
set_option maxHeartbeats 1000000 in
theorem Qsj (tag:Int)(h0:0≤tag)(h1:tag≤255)(c n:BitVec 64)(w:World):
 Calls Tryz.prog 124 [.int .u8 tag,wv c,wv n].toArray w fun e w'=>∃ v,e=.returned v∧(v=kv (blk tag c n)∧Gr w w'):=by
 refine bP 15 Tryz.func124 rfl rfl rfl<|qs 1 rfl<|qe rfl (bB iI (by rfl)) ?_;rintro _ w1 ⟨b1,rfl,hbw1,Bw1,Gw1⟩;have z1:=Gw1.size;have lt2:=Bw1.lt;refine qd 9 rfl<|qv rfl (aA rfl)<|qv rfl (Ig Qv rfl aQ aQ)<|qv rfl (Lc rfl rfl aQ)<|qv rfl (aA rfl)<|qv rfl (wW rfl rfl)<|qv rfl (aA rfl)<|qv rfl (dJ Qbu rfl rfl)<|qe rfl (mP Qct rfl (Qbq (blk tag c n) _)) ?_;rintro _ w2 ⟨rfl,Gw2⟩;have z3:=Gw2.size;have B4:=(Bx.gr Bw1 Gw2);refine qe rfl (pU (bC).siz rfl rfl (by rfl) (by rfl) (by rfl) B4 (by rfl)) ?_;rintro _ w3 ⟨Bw3,Mw3⟩;have z5:=Mw3.size;refine aX<|aF ?_;have X6:=(Gr.md (Gr.trans (Gr.trans (Gr.refl w) Gw1) Gw2) Mw3 aQ);refine⟨_,_,rfl,Z6 rfl bC rfl Bw3 (by rfl),?_⟩;exact⟨rfl,X6⟩
set_option maxHeartbeats 1000000 in
theorem nD (k:W2)(tag:Int)(h0:0≤tag)(h1:tag≤255)(n:BitVec 64)(w:World):
 Calls Tryz.prog 52 [kv k,.int .u8 tag,wv n].toArray w fun e w'=>∃ v,e=.returned v∧(v=kv (cC k tag n)∧Gr w w'):=by
 refine bP 12 Tryz.func52 rfl rfl rfl<|qs 2 rfl<|qe rfl (bR rfl (by rfl)) ?_;rintro _ w1 ⟨b1,rfl,hbw1,Bw1,Gw1⟩;have z1:=Gw1.size;have lt2:=Bw1.lt;refine qe rfl (bB iI (by rfl)) ?_;rintro _ w2 ⟨b2,rfl,hbw2,Bw2,Gw2⟩;have z3:=Gw2.size;have lt4:=Bw2.lt;refine aX<|aD<|Nh [b2] [(0,3),(1,3),(2,3),(3,0),(4,0),(5,2)] aZ aZ rfl aZ ?_;intro w3 Gw3 zw3;have B5:=(Bx.gr (Bx.gr Bw1 Gw2) Gw3);refine fK rfl rfl rfl (Kp.refl [b2] w3) (fun w hS=>bZ bC rfl (Bx.kp B5 hS (by simp<;>first|omega|(split<;>omega))) (by rfl))<|fK rfl rfl rfl (Kp.refl [b2] w3) (fun w hS=>aA rfl)<|fK rfl rfl rfl (Kp.refl [b2] w3) (fun w hS=>aA rfl)<|Bc rfl rfl rfl (mP Qvg rfl (Qsj _ aQ aQ 0#64 _ _)) ?_
 rintro _ w4 ⟨rfl,Gw4⟩;have z6:=Gw4.size;refine⟨Gw4,?_⟩;refine Bc rfl rfl rfl (mP Bm rfl (Qd6 _ _ _)) ?_;rintro _ w5 ⟨rfl,Gw5⟩;have z7:=Gw5.size;refine⟨Gw5,?_⟩;have B8:=(Bx.gr (Bx.gr (Bx.gr Bw2 Gw3) Gw4) Gw5);refine Qx (b:=b2) rfl rfl rfl rfl (pU (bC).siz rfl rfl (by rfl) (by rfl) (by rfl) B8 (by rfl)) (by first|exact Or.inl bW|exact Or.inr aQ) ?_
 rintro _ w6 ⟨Bw6,Mw6⟩;have z9:=Mw6.size;refine⟨Mw6,?_⟩;refine aX<|aF ?_;have X10:=(Gr.md (Gr.trans (Gr.trans (Gr.trans (Gr.trans (Gr.trans (Gr.refl w) Gw1) Gw2) Gw3) Gw4) Gw5) Mw6 aQ);refine⟨_,_,rfl,Z6 rfl bC rfl Bw6 (by rfl),?_⟩;exact⟨rfl,X10⟩
def xT (k:W2)(n:Nat):List Value:=(List.range 32).map fun i=>if i<n then wv (ks k i).2 else .int .u64 0
theorem Xap (k:W2)(n:Nat):(xT k n).length=32:=by simp[xT]
theorem Xan (k:W2):xT k 0=List.replicate 32 (.int .u64 0):=by rfl
theorem Xaq (k:W2)(n:Nat)(h:n<32):(xT k n).set (0+(n:Int).toNat*1) (wv (ks k n).2)=xT k (n+1):=by
 have e:0+(n:Int).toNat*1=n:=by omega
 rw[e];apply Qai;intro i;rw[Qan];unfold xT;by_cases hi:i<32
 · by_cases h2:n=i
   · subst h2;simp[h]
   · have:(i<n+1)=(i<n):=by apply propext;omega
     simp[h2,hi,this]
 · simp[hi];omega
theorem Xao (k:W2)(n:Nat)(h:n<32):(xT k 32)[0+((n:Int)+1-1).toNat*1]? = some (wv (ks k n).2):=by
 have e:0+((n:Int)+1-1).toNat*1=n:=by omega
 rw[e];simp[xT,h]
theorem Quz (k b:W2)(j:Nat)(h:j<32):Qy k b j=rH (Qy k b (j+1)) (ks k j).2:=by
 unfold Qy;rw[show 32-j=32-(j+1)+1 from by omega,W7,Sd,wN,List.foldl_nil,show 31-(32-(j+1))=j from by omega]
set_option maxHeartbeats 1000000 in
theorem Bf (k b:W2)(w:World):
 Calls Tryz.prog 211 [kv k,kv b].toArray w fun e w'=>∃ v,e=.returned v∧(v=kv (rU k b)∧Gr w w'):=by
 refine bP 30 Tryz.func211 rfl rfl rfl<|qs 3 rfl<|qe rfl (bR rfl (by rfl)) ?_;rintro _ w1 ⟨b1,rfl,hbw1,Bw1,Gw1⟩;have z1:=Gw1.size;have lt2:=Bw1.lt;refine qe rfl (bR rfl (by rfl)) ?_;rintro _ w2 ⟨b2,rfl,hbw2,Bw2,Gw2⟩;have z3:=Gw2.size;have lt4:=Bw2.lt;refine qe rfl (bB iI (by rfl)) ?_;rintro _ w3 ⟨b3,rfl,hbw3,Bw3,Gw3⟩;have z5:=Gw3.size;have lt6:=Bw3.lt;refine qd 1 rfl<|qe rfl (bB Xjo (by rfl)) ?_;rintro _ w4 ⟨b4,rfl,hbw4,Bw4,Gw4⟩;have z7:=Gw4.size;have lt8:=Bw4.lt;refine aX<|aD<|qs 2 rfl ?_;have B9:=(Bx.gr (Bx.gr (Bx.gr Bw1 Gw2) Gw3) Gw4);refine qv rfl (bZ bC rfl B9 (by rfl))<|qe rfl (mP Qjv rfl (Qmi _ _)) ?_;rintro _ w5 ⟨b5,rfl,hb5,Bk5,Gw5⟩;have z10:=Gw5.size;have lt11:=Bk5.lt;refine aX<|bH ?_;have X12:=(Gr.trans (Gr.trans (Gr.trans (Gr.trans (Gr.trans (Gr.refl w) Gw1) Gw2) Gw3) Gw4) Gw5);have B13:=(Bx.gr Bw4 Gw5);refine yZ (gf:=306) (xs:=vC k) (cap:=[b5]) rfl Qk3 (Qmj k b5 _ Bk5) (Qmh k) rfl (fun rk fp W=>fp=[b4]∧Bx W b4 374 (xT k rk)) (fun _ _ _ _=>False) [b4] (Qpy _ _ _) (fun _=>Va) (by simp<;>omega) (⟨rfl,by rw[Xan];exact B13⟩) ?_ ?_ ?_
 · rintro l rk x fp w6 hl hx ⟨rfl,Bw6⟩ Kw6 hF hln dX;have z14:=Kw6.size;obtain⟨hi,rfl⟩:=Qmg hx;refine qs 1 rfl<|qv rfl (fX rfl)<|aX<|qg 1 rfl<|qv rfl (fX rfl)<|aB<|⟨rfl,(Gr.refl _),?_⟩;rintro w7 Mw7 ⟨_,Bw7⟩;have z15:=Mw7.size;refine bH<|qg 4 rfl<|qv rfl (aA rfl)<|qv rfl (aA rfl)<|qv rfl (yV Tryz.underlying374 (cO).siz rfl rfl aQ aQ)<|qe rfl (Xg (cO).siz rfl rfl rfl Bw7 (by rw[Xap];omega)) ?_;rintro _ w8 ⟨Bw8,Mw8⟩;have z16:=Mw8.size;refine aB<|bE<|⟨(Kp.md (Kp.refl _ _) Mw8 (by first|exact Or.inl bW|exact Or.inr aQ)),_,fun c hc=>.inl hc,?_⟩
   exact⟨rfl,by rw[←Xaq k rk hi];exact Bw8⟩
 · rintro Dw9 fp w9 hDw9 Dfw9 nw9 ⟨rfl,Bw9⟩ Kw9;have z17:=Kw9.size;have lt17:=Df.lt (w:=w9) Dfw9;rw[Pw] at Bw9;refine bE<|bY<|qs 4 rfl ?_;have B18:=(Bx.kp (Bx.gr (Bx.gr (Bx.gr Bw2 Gw3) Gw4) Gw5) Kw9 (by simp<;>first|omega|(split<;>omega)))
   refine qv rfl (bZ bC rfl B18 (by rfl))<|qe rfl (mP Hk rfl (Qh9 _ _)) ?_;rintro _ w10 ⟨rfl,Gw10⟩;have z19:=Gw10.size;refine qe rfl (bB uR (by rfl)) ?_;rintro _ w11 ⟨b11,rfl,hbw11,Bw11,Gw11⟩;have z20:=Gw11.size;have lt21:=Bw11.lt;refine qe rfl (pU (kE).siz rfl rfl (by rfl) (by rfl) (by rfl) Bw11 (by rfl)) ?_;rintro _ w12 ⟨Bw12,Mw12⟩;have z22:=Mw12.size;refine aX<|aD<|qs 1 rfl<|qv rfl (fX rfl)<|aX<|bH ?_;have X23:=(Gr.md (Gr.trans (Gr.trans (Gr.kp X12 Kw9 (by simp<;>first|omega|(split<;>omega))) Gw10) Gw11) Mw12 aQ)
   refine dN (α:=Nat) [9,19,20,21,22,23,24,25,26,27] (fun j=>[(9,.int .i64 ((j:Int)-1))]) (fun j wr=>(j≤32)∧Bx wr b11 326 ([wv (Qy k b j).1,wv (Qy k b j).2])∧Kp [b11] w12 wr) (fun j=>j) (32) ?_ ?_ ?_
   · exact aR
   · exact⟨eO _,Bw12,Kp.refl _ _⟩
   rintro j w13 ⟨hj,Bw13_b11,Kw13⟩;have z24:=Kw13.size;refine aD<|qs 2 rfl<|qv rfl (aA rfl)<|qv rfl (gC rfl rfl)<|aX<|lY rfl (fun h1=>?_) (fun h1=>?_)
   · -- h1 True
     replace h1:=iX h1;obtain⟨j,rfl⟩:∃ i,j=i+1:=⟨j-1,aQ⟩;refine qu<|aD<|bH<|Nh [b11] [(0,1),(1,3),(2,3),(3,3),(4,0),(5,2)] aZ aZ rfl aZ ?_;intro w14 Gw14 zw14;have B25:=(Bx.gr Bw13_b11 Gw14);refine Qci rfl rfl rfl (Gr.refl w14) (fun w hS=>bZ kE rfl (Bx.gr B25 hS) (by rfl))<|fK rfl rfl rfl (Kp.refl [b11] w14) (fun w hS=>aA rfl)<|fK rfl rfl rfl (Kp.refl [b11] w14) (fun w hS=>yV Tryz.underlying374 (cO).siz rfl rfl aQ aQ) ?_;have B26:=(Bx.gr (Bx.kp (Bx.md (Bx.gr (Bx.gr Bw9 Gw10) Gw11) Mw12 aQ) Kw13 (by simp<;>first|omega|(split<;>omega))) Gw14)
     refine fK rfl rfl rfl (Kp.refl [b11] w14) (fun w hS=>aS cO rfl (Bx.kp B26 hS (by simp<;>first|omega|(split<;>omega))) (by exact Xao k j aQ))<|Bc rfl rfl rfl (mP Qwz rfl (Qsb _ _ _)) ?_
     rintro _ w15 ⟨rfl,Gw15⟩;have z27:=Gw15.size;refine⟨Gw15,?_⟩;have B28:=(Bx.gr B25 Gw15);refine Qx (b:=b11) rfl rfl rfl rfl (pU (kE).siz rfl rfl (by rfl) (by rfl) (by rfl) B28 (by rfl)) (by first|exact Or.inl bW|exact Or.inr aQ) ?_
     rintro _ w16 ⟨Bw16,Mw16⟩;have z29:=Mw16.size;refine⟨Mw16,?_⟩;refine aB<|bE<|bY<|qg 3 rfl<|qv rfl (aA rfl)<|qv rfl (Qh7 rfl rfl aQ aQ)<|qv rfl (fX rfl)<|aB ?_;have K_30:=(Kp.md (Kp.gr (Kp.gr Kw13 Gw14) Gw15) Mw16 (by simp<;>first|omega|(split<;>omega)))
     refine⟨rfl,j,?_,⟨?_,?_,K_30⟩,?_⟩
     · repeat' first|exact trivial|refine⟨by first|rfl|exact cA (fun x=>some (Value.int .i64 x)) aQ,?_⟩
     · omega
     · rw[Quz k b j aQ];exact Bw16
     first|omega|(dsimp only;omega)
   replace h1:=oX h1;obtain rfl:j=0:=by omega
   refine cE<|bL<|bL<|cB<|bY<|qs 3 rfl<|qv rfl (bZ kE rfl Bw13_b11 (by rfl))<|qe rfl (mP Qct rfl (Qbq _ _)) ?_;rintro _ w17 ⟨rfl,Gw17⟩;have z31:=Gw17.size;have B32:=(Bx.gr (Bx.kp (Bx.md (Bx.gr (Bx.gr (Bx.kp (Bx.gr (Bx.gr Bw3 Gw4) Gw5) Kw9 (by simp<;>first|omega|(split<;>omega))) Gw10) Gw11) Mw12 aQ) Kw13 (by simp<;>first|omega|(split<;>omega))) Gw17)
   refine qe rfl (pU (bC).siz rfl rfl (by rfl) (by rfl) (by rfl) B32 (by rfl)) ?_;rintro _ w18 ⟨Bw18,Mw18⟩;have z33:=Mw18.size;refine aX<|aF ?_;have DL34:=(Df.md (Df.gr (Df.kp (Df.md (Df.gr (Df.gr Dfw9 Gw10) Gw11) Mw12 aQ) Kw13 (by simp<;>first|omega|(split<;>omega))) Gw17) Mw18 aQ)
   have L34:=Md.put (w:=w18) Dw9 (.deferred none);have zL34:=L34.size;have B35:=(Bx.md Bw18 L34 aQ);have X36:Gr w (w18.putObj Dw9 (.deferred none)):=(Gr.md (Gr.md (Gr.trans (Gr.kp X23 Kw13 (by simp<;>first|omega|(split<;>omega))) Gw17) Mw18 aQ) L34 aQ)
   refine⟨_,_,⟨Dw9,rfl,DL34,rfl⟩,Z6 rfl bC rfl B35 (by rfl),?_⟩;exact⟨rfl,X36⟩
 rintro _ _ _ _ _ _ _ _ _ h _;exact h.elim
end Go.Proofs.YtplcaaglieefgaaGreat

end
section
namespace Go.Proofs.YtplcaaglieefgaaGreat
open Go Go.RowKit Go.Sx
end Go.Proofs.YtplcaaglieefgaaGreat

end
section
namespace Go.Proofs.YtplcaaglieefgaaGreat
open Go Go.RowKit Go.Sx
theorem oJ:CV Tryz.prog 5 3 .i64:=fun _ _ _=>aZ
theorem Qxk:En Tryz.prog 384:=fun _ _=>aZ
theorem Bb:CV Tryz.prog 148 5 .u8:=fun _ _ _=>aZ
theorem Xbe (n k:Nat)(h:2^k≤n):Nat.log2 n=Nat.log2 (n / 2^k)+k:=by
 induction k generalizing n with
 | zero=>simp
 | succ k ih=>
  have h2:2^k≤n / 2:=by rw[yA aQ];rw[eS] at h;omega
  have h1:2≤n:=by have:0<2^k:=fI k;rw[eS] at h;omega
  rw[Sr,aG h1,ih (n / 2) h2,iB,eS,eZ 2];omega
theorem oT (a:Int)(k m:Nat)(hm:2^k=m)(h:(m:Int)≤a):lg a=lg (a / (m:Int))+k:=by
 obtain⟨n,rfl⟩:=E5 (show 0≤a by omega);subst hm;have hp:0<2^k:=fI k;have h':2^k≤n:=by omega
 have e:((n:Int) / ((2^k:Nat):Int)).toNat=n / 2^k:=by rw[←Yf];rfl
 have h1:¬ (n / 2^k=0):=by rw[Nat.div_eq_zero_iff];omega
 unfold lg;rw[e,jZ,aH h1,aH aQ,Xbe n k h'];omega
def qZ:ByteArray:=⟨#[0,1,2,2,3,3,3,3,4,4,4,4,4,4,4,4,5,5,5,5,5,5,5,5,5,5,5,5,5,5,5,5,6,6,6,6,6,6,6,6,6,6,6,6,6,6,6,6,6,6,6,6,6,6,6,6,6,6,6,6,6,6,6,6,7,7,7,7,7,7,7,7,7,7,7,7,7,7,7,7,7,7,7,7,7,7,7,7,7,7,7,7,7,7,7,7,7,7,7,7,7,7,7,7,7,7,7,7,7,7,7,7,7,7,7,7,7,7,7,7,7,7,7,7,7,7,7,7,8,8,8,8,8,8,8,8,8,8,8,8,8,8,8,8,8,8,8,8,8,8,8,8,8,8,8,8,8,8,8,8,8,8,8,8,8,8,8,8,8,8,8,8,8,8,8,8,8,8,8,8,8,8,8,8,8,8,8,8,8,8,8,8,8,8,8,8,8,8,8,8,8,8,8,8,8,8,8,8,8,8,8,8,8,8,8,8,8,8,8,8,8,8,8,8,8,8,8,8,8,8,8,8,8,8,8,8,8,8,8,8,8,8,8,8,8,8,8,8,8,8,8,8,8,8,8,8]⟩
theorem Xb8:∀ k:Fin 256,qZ[k.1]? = some (UInt8.ofNat (lg (k.1:Int)).toNat)∧lg (k.1:Int)=((UInt8.ofNat (lg (k.1:Int)).toNat).toNat:Int):=by decide +kernel
theorem jM {a:Int}(h0:0≤a)(h1:a<256):qZ[a.toNat]? = some (UInt8.ofNat (lg a).toNat)∧lg a=((UInt8.ofNat (lg a).toNat).toNat:Int):=by
 obtain⟨n,rfl⟩:=E5 h0;exact Xb8 ⟨n,aQ⟩
theorem sW (a:Int) : -9223372036854775808≤lg a:=by unfold lg;split<;>omega
theorem sY {a:Int}(h0:0≤a)(h1:a<256):lg a≤9223372036854775807:=by have:=(jM h0 h1).2;have:=(UInt8.ofNat (lg a).toNat).toNat_lt;omega
theorem sK {b:Int}(a:Int)(h:0≤b) : -9223372036854775808≤b+lg a:=by unfold lg;split<;>omega
theorem sV {a b:Int}(h0:0≤a)(h1:a<256)(hb:b≤1000):b+lg a≤9223372036854775807:=by have:=(jM h0 h1).2;have:=(UInt8.ofNat (lg a).toNat).toNat_lt;omega
set_option maxRecDepth 20000 in
set_option maxHeartbeats 1000000 in
theorem Xb7 (a:Int)(ha1:0≤a)(ha2:a<18446744073709551616)(w:World):
 Calls Tryz.prog 384 [.int .u64 a].toArray w fun e w'=>∃ v,e=.returned v∧(v=.int .i64 (lg a)∧Gr w w'):=by
 refine bP 25 Tryz.func384 rfl rfl rfl<|qs 1 rfl<|qv rfl (fX rfl)<|aX<|aD<|qs 2 rfl<|qv rfl (aA rfl)<|qv rfl (gC rfl rfl)<|aX<|lY rfl (fun h1=>?_) (fun h1=>?_)
 · -- h1 True
   replace h1:=iX h1;refine qs 3 rfl<|qv rfl (aA rfl)<|qv rfl (wY (n:=32) (m:=4294967296) rfl rfl rfl bV)<|qv rfl (fX rfl)<|aX<|qg 1 rfl<|qv rfl (fX rfl)<|aX<|aD<|qs 2 rfl<|qv rfl (aA rfl)<|qv rfl (gC rfl rfl)<|aX<|lY rfl (fun h2=>?_) (fun h2=>?_)
   · -- h2 True
     replace h2:=iX h2;refine qs 3 rfl<|qv rfl (aA rfl)<|qv rfl (wY (n:=16) (m:=65536) rfl rfl rfl bV)<|qv rfl (fX rfl)<|aX<|qg 3 rfl<|qv rfl (aA rfl)<|qv rfl (kX rfl rfl aQ aQ)<|qv rfl (fX rfl)<|aX<|aD<|qs 2 rfl<|qv rfl (aA rfl)<|qv rfl (gC rfl rfl)<|aX<|lY rfl (fun h3=>?_) (fun h3=>?_)
     · -- h3 True
       replace h3:=iX h3;refine qs 3 rfl<|qv rfl (aA rfl)<|qv rfl (wY (n:=8) (m:=256) rfl rfl rfl bV)<|qv rfl (fX rfl)<|aX<|qg 3 rfl<|qv rfl (aA rfl)<|qv rfl (kX rfl rfl aQ aQ)<|qv rfl (fX rfl)<|qd 7 rfl<|qv rfl (aA rfl)<|qv rfl (aA rfl)<|qv rfl (sC vT rfl aQ aQ)<|qv rfl (dL (sM Tryz.underlying9 rfl rfl aQ (show qZ[_]? = _ from(jM aQ aQ).1)) (cA (Value.int .u8) (jM aQ aQ).2.symm))<|qv rfl (rD oJ rfl (sW _) (sY aQ aQ))<|qv rfl (kX rfl rfl (sK _ bV) (sV aQ aQ bV))<|qv rfl (fX rfl)<|aX<|aF<|⟨_,_,rfl,pY rfl rfl,?_⟩;refine⟨cA (Value.int .i64) ?_,(Gr.refl w)⟩;have e0:lg (a:Int)=lg ((a:Int) / 4294967296)+32:=oT (a:Int) 32 4294967296 bV aQ;have e1:lg ((a:Int) / 4294967296)=lg (((a:Int) / 4294967296) / 65536)+16:=oT ((a:Int) / 4294967296) 16 65536 bV aQ;have e2:lg (((a:Int) / 4294967296) / 65536)=lg ((((a:Int) / 4294967296) / 65536) / 256)+8:=oT (((a:Int) / 4294967296) / 65536) 8 256 bV aQ;omega
     replace h3:=oX h3;refine qu<|qs 7 rfl<|qv rfl (aA rfl)<|qv rfl (aA rfl)<|qv rfl (sC vT rfl aQ aQ)<|qv rfl (dL (sM Tryz.underlying9 rfl rfl aQ (show qZ[_]? = _ from(jM aQ aQ).1)) (cA (Value.int .u8) (jM aQ aQ).2.symm))<|qv rfl (rD oJ rfl (sW _) (sY aQ aQ))<|qv rfl (kX rfl rfl (sK _ bV) (sV aQ aQ bV))<|qv rfl (fX rfl)<|aX<|aF<|⟨_,_,rfl,pY rfl rfl,?_⟩;refine⟨cA (Value.int .i64) ?_,(Gr.refl w)⟩;have e0:lg (a:Int)=lg ((a:Int) / 4294967296)+32:=oT (a:Int) 32 4294967296 bV aQ;have e1:lg ((a:Int) / 4294967296)=lg (((a:Int) / 4294967296) / 65536)+16:=oT ((a:Int) / 4294967296) 16 65536 bV aQ;omega
   replace h2:=oX h2;refine qu<|aD<|qs 2 rfl<|qv rfl (aA rfl)<|qv rfl (gC rfl rfl)<|aX<|lY rfl (fun h4=>?_) (fun h4=>?_)
   · -- h4 True
     replace h4:=iX h4;refine qs 3 rfl<|qv rfl (aA rfl)<|qv rfl (wY (n:=8) (m:=256) rfl rfl rfl bV)<|qv rfl (fX rfl)<|aX<|qg 3 rfl<|qv rfl (aA rfl)<|qv rfl (kX rfl rfl aQ aQ)<|qv rfl (fX rfl)<|qd 7 rfl<|qv rfl (aA rfl)<|qv rfl (aA rfl)<|qv rfl (sC vT rfl aQ aQ)<|qv rfl (dL (sM Tryz.underlying9 rfl rfl aQ (show qZ[_]? = _ from(jM aQ aQ).1)) (cA (Value.int .u8) (jM aQ aQ).2.symm))<|qv rfl (rD oJ rfl (sW _) (sY aQ aQ))<|qv rfl (kX rfl rfl (sK _ bV) (sV aQ aQ bV))<|qv rfl (fX rfl)<|aX<|aF<|⟨_,_,rfl,pY rfl rfl,?_⟩;refine⟨cA (Value.int .i64) ?_,(Gr.refl w)⟩;have e0:lg (a:Int)=lg ((a:Int) / 4294967296)+32:=oT (a:Int) 32 4294967296 bV aQ;have e1:lg ((a:Int) / 4294967296)=lg (((a:Int) / 4294967296) / 256)+8:=oT ((a:Int) / 4294967296) 8 256 bV aQ;omega
   replace h4:=oX h4;refine qu<|qs 7 rfl<|qv rfl (aA rfl)<|qv rfl (aA rfl)<|qv rfl (sC vT rfl aQ aQ)<|qv rfl (dL (sM Tryz.underlying9 rfl rfl aQ (show qZ[_]? = _ from(jM aQ aQ).1)) (cA (Value.int .u8) (jM aQ aQ).2.symm))<|qv rfl (rD oJ rfl (sW _) (sY aQ aQ))<|qv rfl (kX rfl rfl (sK _ bV) (sV aQ aQ bV))<|qv rfl (fX rfl)<|aX<|aF<|⟨_,_,rfl,pY rfl rfl,?_⟩;refine⟨cA (Value.int .i64) ?_,(Gr.refl w)⟩;have e0:lg (a:Int)=lg ((a:Int) / 4294967296)+32:=oT (a:Int) 32 4294967296 bV aQ;omega
 replace h1:=oX h1;refine qu<|aD<|qs 2 rfl<|qv rfl (aA rfl)<|qv rfl (gC rfl rfl)<|aX<|lY rfl (fun h5=>?_) (fun h5=>?_)
 · -- h5 True
   replace h5:=iX h5;refine qs 3 rfl<|qv rfl (aA rfl)<|qv rfl (wY (n:=16) (m:=65536) rfl rfl rfl bV)<|qv rfl (fX rfl)<|aX<|qg 3 rfl<|qv rfl (aA rfl)<|qv rfl (kX rfl rfl aQ aQ)<|qv rfl (fX rfl)<|aX<|aD<|qs 2 rfl<|qv rfl (aA rfl)<|qv rfl (gC rfl rfl)<|aX<|lY rfl (fun h6=>?_) (fun h6=>?_)
   · -- h6 True
     replace h6:=iX h6;refine qs 3 rfl<|qv rfl (aA rfl)<|qv rfl (wY (n:=8) (m:=256) rfl rfl rfl bV)<|qv rfl (fX rfl)<|aX<|qg 3 rfl<|qv rfl (aA rfl)<|qv rfl (kX rfl rfl aQ aQ)<|qv rfl (fX rfl)<|qd 7 rfl<|qv rfl (aA rfl)<|qv rfl (aA rfl)<|qv rfl (sC vT rfl aQ aQ)<|qv rfl (dL (sM Tryz.underlying9 rfl rfl aQ (show qZ[_]? = _ from(jM aQ aQ).1)) (cA (Value.int .u8) (jM aQ aQ).2.symm))<|qv rfl (rD oJ rfl (sW _) (sY aQ aQ))<|qv rfl (kX rfl rfl (sK _ bV) (sV aQ aQ bV))<|qv rfl (fX rfl)<|aX<|aF<|⟨_,_,rfl,pY rfl rfl,?_⟩;refine⟨cA (Value.int .i64) ?_,(Gr.refl w)⟩;have e0:lg (a:Int)=lg ((a:Int) / 65536)+16:=oT (a:Int) 16 65536 bV aQ;have e1:lg ((a:Int) / 65536)=lg (((a:Int) / 65536) / 256)+8:=oT ((a:Int) / 65536) 8 256 bV aQ;omega
   replace h6:=oX h6;refine qu<|qs 7 rfl<|qv rfl (aA rfl)<|qv rfl (aA rfl)<|qv rfl (sC vT rfl aQ aQ)<|qv rfl (dL (sM Tryz.underlying9 rfl rfl aQ (show qZ[_]? = _ from(jM aQ aQ).1)) (cA (Value.int .u8) (jM aQ aQ).2.symm))<|qv rfl (rD oJ rfl (sW _) (sY aQ aQ))<|qv rfl (kX rfl rfl (sK _ bV) (sV aQ aQ bV))<|qv rfl (fX rfl)<|aX<|aF<|⟨_,_,rfl,pY rfl rfl,?_⟩;refine⟨cA (Value.int .i64) ?_,(Gr.refl w)⟩;have e0:lg (a:Int)=lg ((a:Int) / 65536)+16:=oT (a:Int) 16 65536 bV aQ;omega
 replace h5:=oX h5;refine qu<|aD<|qs 2 rfl<|qv rfl (aA rfl)<|qv rfl (gC rfl rfl)<|aX<|lY rfl (fun h7=>?_) (fun h7=>?_)
 · -- h7 True
   replace h7:=iX h7;refine qs 3 rfl<|qv rfl (aA rfl)<|qv rfl (wY (n:=8) (m:=256) rfl rfl rfl bV)<|qv rfl (fX rfl)<|aX<|qg 3 rfl<|qv rfl (aA rfl)<|qv rfl (kX rfl rfl aQ aQ)<|qv rfl (fX rfl)<|qd 7 rfl<|qv rfl (aA rfl)<|qv rfl (aA rfl)<|qv rfl (sC vT rfl aQ aQ)<|qv rfl (dL (sM Tryz.underlying9 rfl rfl aQ (show qZ[_]? = _ from(jM aQ aQ).1)) (cA (Value.int .u8) (jM aQ aQ).2.symm))<|qv rfl (rD oJ rfl (sW _) (sY aQ aQ))<|qv rfl (kX rfl rfl (sK _ bV) (sV aQ aQ bV))<|qv rfl (fX rfl)<|aX<|aF<|⟨_,_,rfl,pY rfl rfl,?_⟩;refine⟨cA (Value.int .i64) ?_,(Gr.refl w)⟩;have e0:lg (a:Int)=lg ((a:Int) / 256)+8:=oT (a:Int) 8 256 bV aQ;omega
 replace h7:=oX h7;refine qu<|qs 7 rfl<|qv rfl (aA rfl)<|qv rfl (aA rfl)<|qv rfl (sC vT rfl aQ aQ)<|qv rfl (dL (sM Tryz.underlying9 rfl rfl aQ (show qZ[_]? = _ from(jM aQ aQ).1)) (cA (Value.int .u8) (jM aQ aQ).2.symm))<|qv rfl (rD oJ rfl (sW _) (sY aQ aQ))<|qv rfl (kX rfl rfl (sK _ bV) (sV aQ aQ bV))<|qv rfl (fX rfl)<|aX<|aF<|⟨_,_,rfl,pY rfl rfl,?_⟩;refine⟨cA (Value.int .i64) ?_,(Gr.refl w)⟩;omega
set_option maxHeartbeats 1000000 in
theorem Xb9 (a:Int)(ha1:0≤a)(ha2:a<18446744073709551616)(w:World):
 Calls Tryz.prog 351 [.int .u64 a].toArray w fun e w'=>∃ v,e=.returned v∧(v=.int .i64 (lg a)∧Gr w w'):=by
 refine bP 8 Tryz.func351 rfl rfl rfl<|qs 1 rfl<|qv rfl (fX rfl)<|aX<|aD<|jT rfl<|qu<|qs 3 rfl<|qv rfl (aA rfl)<|qe rfl (mP Qxk rfl (Xb7 _ aQ aQ _)) ?_;rintro _ w1 ⟨rfl,Gw1⟩;have z1:=Gw1.size;refine qv rfl (fX rfl)<|aX<|aF ?_;have X2:=(Gr.trans (Gr.refl w) Gw1);refine⟨_,_,rfl,pY rfl rfl,?_⟩;exact⟨rfl,X2⟩
set_option maxRecDepth 20000 in
set_option maxHeartbeats 1000000 in
theorem Xb6 (a:Int)(ha1:0≤a)(ha2:a<4294967296)(w:World):
 Calls Tryz.prog 383 [.int .u32 a].toArray w fun e w'=>∃ v,e=.returned v∧(v=.int .i64 (lg a)∧Gr w w'):=by
 refine bP 19 Tryz.func383 rfl rfl rfl<|qs 1 rfl<|qv rfl (fX rfl)<|aX<|aD<|qs 2 rfl<|qv rfl (aA rfl)<|qv rfl (gC rfl rfl)<|aX<|lY rfl (fun h1=>?_) (fun h1=>?_)
 · -- h1 True
   replace h1:=iX h1;refine qs 3 rfl<|qv rfl (aA rfl)<|qv rfl (wY (n:=16) (m:=65536) rfl rfl rfl bV)<|qv rfl (fX rfl)<|aX<|qg 1 rfl<|qv rfl (fX rfl)<|aX<|aD<|qs 2 rfl<|qv rfl (aA rfl)<|qv rfl (gC rfl rfl)<|aX<|lY rfl (fun h2=>?_) (fun h2=>?_)
   · -- h2 True
     replace h2:=iX h2;refine qs 3 rfl<|qv rfl (aA rfl)<|qv rfl (wY (n:=8) (m:=256) rfl rfl rfl bV)<|qv rfl (fX rfl)<|aX<|qg 3 rfl<|qv rfl (aA rfl)<|qv rfl (kX rfl rfl aQ aQ)<|qv rfl (fX rfl)<|qd 7 rfl<|qv rfl (aA rfl)<|qv rfl (aA rfl)<|qv rfl (sC Bb rfl aQ aQ)<|qv rfl (dL (sM Tryz.underlying9 rfl rfl aQ (show qZ[_]? = _ from(jM aQ aQ).1)) (cA (Value.int .u8) (jM aQ aQ).2.symm))<|qv rfl (rD oJ rfl (sW _) (sY aQ aQ))<|qv rfl (kX rfl rfl (sK _ bV) (sV aQ aQ bV))<|qv rfl (fX rfl)<|aX<|aF<|⟨_,_,rfl,pY rfl rfl,?_⟩;refine⟨cA (Value.int .i64) ?_,(Gr.refl w)⟩;have e0:lg (a:Int)=lg ((a:Int) / 65536)+16:=oT (a:Int) 16 65536 bV aQ;have e1:lg ((a:Int) / 65536)=lg (((a:Int) / 65536) / 256)+8:=oT ((a:Int) / 65536) 8 256 bV aQ;omega
   replace h2:=oX h2;refine qu<|qs 7 rfl<|qv rfl (aA rfl)<|qv rfl (aA rfl)<|qv rfl (sC Bb rfl aQ aQ)<|qv rfl (dL (sM Tryz.underlying9 rfl rfl aQ (show qZ[_]? = _ from(jM aQ aQ).1)) (cA (Value.int .u8) (jM aQ aQ).2.symm))<|qv rfl (rD oJ rfl (sW _) (sY aQ aQ))<|qv rfl (kX rfl rfl (sK _ bV) (sV aQ aQ bV))<|qv rfl (fX rfl)<|aX<|aF<|⟨_,_,rfl,pY rfl rfl,?_⟩;refine⟨cA (Value.int .i64) ?_,(Gr.refl w)⟩;have e0:lg (a:Int)=lg ((a:Int) / 65536)+16:=oT (a:Int) 16 65536 bV aQ;omega
 replace h1:=oX h1;refine qu<|aD<|qs 2 rfl<|qv rfl (aA rfl)<|qv rfl (gC rfl rfl)<|aX<|lY rfl (fun h3=>?_) (fun h3=>?_)
 · -- h3 True
   replace h3:=iX h3;refine qs 3 rfl<|qv rfl (aA rfl)<|qv rfl (wY (n:=8) (m:=256) rfl rfl rfl bV)<|qv rfl (fX rfl)<|aX<|qg 3 rfl<|qv rfl (aA rfl)<|qv rfl (kX rfl rfl aQ aQ)<|qv rfl (fX rfl)<|qd 7 rfl<|qv rfl (aA rfl)<|qv rfl (aA rfl)<|qv rfl (sC Bb rfl aQ aQ)<|qv rfl (dL (sM Tryz.underlying9 rfl rfl aQ (show qZ[_]? = _ from(jM aQ aQ).1)) (cA (Value.int .u8) (jM aQ aQ).2.symm))<|qv rfl (rD oJ rfl (sW _) (sY aQ aQ))<|qv rfl (kX rfl rfl (sK _ bV) (sV aQ aQ bV))<|qv rfl (fX rfl)<|aX<|aF<|⟨_,_,rfl,pY rfl rfl,?_⟩;refine⟨cA (Value.int .i64) ?_,(Gr.refl w)⟩;have e0:lg (a:Int)=lg ((a:Int) / 256)+8:=oT (a:Int) 8 256 bV aQ;omega
 replace h3:=oX h3;refine qu<|qs 7 rfl<|qv rfl (aA rfl)<|qv rfl (aA rfl)<|qv rfl (sC Bb rfl aQ aQ)<|qv rfl (dL (sM Tryz.underlying9 rfl rfl aQ (show qZ[_]? = _ from(jM aQ aQ).1)) (cA (Value.int .u8) (jM aQ aQ).2.symm))<|qv rfl (rD oJ rfl (sW _) (sY aQ aQ))<|qv rfl (kX rfl rfl (sK _ bV) (sV aQ aQ bV))<|qv rfl (fX rfl)<|aX<|aF<|⟨_,_,rfl,pY rfl rfl,?_⟩;refine⟨cA (Value.int .i64) ?_,(Gr.refl w)⟩;omega
end Go.Proofs.YtplcaaglieefgaaGreat

end
section
namespace Go.Sx
open Go Go.RowKit Go.Proofs Go.Sort Go.Shelf
def Ws' (k:Nat)(xs:List (List Value)):Prop:=∀ y∈xs,y.length=k
theorem Xgj {β:Type}[Inhabited β](enc:β→List Value)(k:Nat)(hk:1≤k)(hc:∀ b,(enc b).length=k)(w:World)(g n:Nat)(d:Array β)(os:Array Obj)(e:TypeId)(cur:Array Value)(hb:w.heap[g]? = some (.cells cur e (0,0)))(hl:d.size*k≤cur.size):
 ∃ cur':Array Value,(sortWorldK enc k w g 0 n d os).heap[g]? = some (.cells cur' e (0,0))∧cur'.size=cur.size∧cur'.toList.take (d.size*k)=(d.toList.map enc).flatten∧Kz [(1,g)] w (sortWorldK enc k w g 0 n d os):=by
 have dX:g<w.heap.size:=(lM.1 hb).1;have hh:(sortWorldK enc k w g 0 n d os).heap=(w.heap.modify g (onCells (putCells id 0 (flatK enc k d))))++os:=rfl;refine⟨putCells id 0 (flatK enc k d) cur,?_,by simp[putCells],?_,?_⟩
 · rw[hh,Qa5 (by simpa using dX),Qa6,aG rfl,hb];rfl
 · apply Qai;intro t;rw[wL]
   have hfl:((d.toList.map enc).flatten).length=d.size*k:=by
    have:Ws' k (d.toList.map enc):=by
     intro y hy;obtain⟨b,_,rfl⟩:=fP.1 hy;exact hc b
    have h2:∀ (xs:List (List Value)),Ws' k xs→xs.flatten.length=xs.length*k:=by
     intro xs
     induction xs with
     | nil=>intro _;simp
     | cons a xs ih=>intro h;rw[pL,nJ,ih (fun y hy=>h y (pS _ hy)),h a bW,qF,iN];omega
    rw[h2 _ this];simp
   by_cases ht:t<d.size*k
   · rw[aG ht];have htc:t<cur.size:=by omega
     have h3:(putCells id 0 (flatK enc k d) cur).toList[t]? = some ((flatK enc k d)[t]!):=by
      simp only[putCells,Array.getElem?_toList,Array.getElem?_mapIdx,Array.getElem?_eq_getElem htc,wS,Yw,true_and,kN,size_flatK,ht,lU,I1,id]
     rw[h3,get_flatK enc k d t ht];have hq:t / k<d.size:=(Sp aQ).2 ht;have hm:t%k<k:=fR _ aQ
     have hgen:∀ (xs:List (List Value)),Ws' k xs→∀ i j c,xs[i]? = some c→j<k→xs.flatten[i*k+j]? = c[j]? := by
      intro xs
      induction xs with
      | nil=>intro _ i j c h;simp at h
      | cons a xs ih=>
       intro hw i j c h hj;have ha:=hw a bW;rw[pL]
       cases i with
       | zero=>simp at h;subst h;rw[vZ,kN,List.getElem?_append_left aQ]
       | succ i=>
        rw[List.getElem?_append_right (by rw[ha,iN];omega),show(i+1)*k+j-a.length=i*k+j from by rw[ha,iN];omega];exact ih (fun y hy=>hw y (pS _ hy)) i j c (by simpa using h) hj
     have h4:=hgen (d.toList.map enc) (fun y hy=>by obtain⟨b,_,rfl⟩:=fP.1 hy;exact hc b) (t / k) (t%k) (enc d[t / k]!) (by simp[hq]) hm;have hdm:t / k*k+t%k=t:=by rw[eZ];exact qM t k
     rw[hdm] at h4;rw[h4];have h5:t%k<(enc d[t / k]!).length:=by rw[hc];exact hm
     simp[h5]
   · rw[aH ht,Qam aQ]
 · refine⟨rfl,rfl,rfl,by rw[hh];simp,fun i hi hn=>?_⟩
   have hne:g≠i:=by
    simp only[cY] at hn;rcases hn.1 with h|h
    · omega
    · exact fun e=>h e.symm
   rw[hh,Qa5 (by simpa using hi),Qa6,aH hne]
section
variable {P:Program} {ρ:Ren}
theorem Xgk {β:Type}(c:β→List Value)(k:Nat)(hc:∀ b,(c b).length=k)(h1:∀ b,iD (c b)=true)(hk:1≤k)(key:β→Int)(cf:Nat)(L:SlLaysF0.n6 P ρ)(aE:∀ w,(isAgg (ρ.t 24)).run P w=.ok true w)(zE:∀ w,(Go.sizeOf (ρ.t 24)).run P w=.ok k w)
 (eg:∀ args w,(callFunc cf args).run P w=.ok (.enter cf args) w)
 (hcmp:∀ (x y:β) (W:World),0≤key x∧key x<4611686018427387904→0≤key y∧key y<4611686018427387904→Calls P cf #[.agg (c x).toArray,.agg (c y).toArray] W fun e w'=>e=.returned (.int .i64 (key x-key y))∧∃ q os',w'=grow (W.drewN q) os')
 {l m:List β} (hm:C9 key l=some m) (w:World) (z g:Nat) (e:TypeId) (v:Value) (h:aY w z g e k v (l.map c)):
 Calls P (ρ.f 6) #[v,.func (.func cf) #[] #[]] w fun e' w'=>∃ v',e'=.returned v'∧(aY w' z g e k v (m.map c)∧Kz [(z,g)] w w'):=by
 obtain⟨rfl,hbd,hnd,hlen⟩:=Xgm hm;rcases h.2 with⟨hz,rfl,h0⟩|⟨hz,cap,cur,rfl,hb,hn,hcap,hsz,htk⟩
 · have hl0:l=[]:=by simpa using h0
   subst hl0;refine(AnyF.slices_SortFunc_none L none 0 (.func (.func cf) #[] #[]) w).mono ?_;rintro e' w' ⟨rfl,rfl⟩;exact⟨_,rfl,by simpa using h,Kz.refl _ _⟩
 · by_cases hl0:l=[]
   · subst hl0;have:(([]:List β).map c).length=0:=rfl;rw[this];refine(AnyF.slices_SortFunc_none L (some ⟨g,0,none⟩) cap (.func (.func cf) #[] #[]) w).mono ?_;rintro e' w' ⟨rfl,rfl⟩;exact⟨_,rfl,by simpa using h,Kz.refl _ _⟩
   · obtain⟨b0,hb0⟩:=Yj l hl0
     let A:={ x:β // x∈l }
     letI:Inhabited A:=⟨⟨b0,hb0⟩⟩
     let enc:A→List Value:=fun x=>c x.1
     let d:Array A:=l.attach.toArray
     let cfn:A→A→Int:=fun x y=>key x.1-key y.1
     have hds:d.size=l.length:=by show l.attach.toArray.size=l.length;simp
     have dX:∀ x y:A,ltOf cfn x y=decide (key x.1<key y.1):=fun x y=>by
      unfold ltOf;apply lQ.2;show key x.1-key y.1<0↔_;omega
     have hO:SWO (ltOf cfn):=⟨fun x=>by rw[dX];simp,fun x y z h1 h2=>by rw[dX] at *;simp at *;omega,fun x y z h1 h2=>by rw[dX] at *;simp at *;omega⟩
     have hT:∀ x y:A,ltOf cfn x y=false→ltOf cfn y x=false→x=y:=fun x y h1 h2=>by
      rw[dX] at h1 h2;simp at h1 h2;have he:key x.1=key y.1:=by omega
      apply Subtype.ext;obtain⟨i,hi,ei⟩:=Si.1 x.2;obtain⟨j,hj,ej⟩:=Si.1 y.2;have hij:i=j:=(Qak (h₀:=by simpa using hi) (h₁:=by simpa using hj) hnd).1 (by rw[oR,oR,ei,ej];exact he);subst hij;rw[←ei,←ej]
     have hmk:d.toList.map enc=l.map c:=by
      show l.attach.toArray.toList.map (fun x:A=>c x.1)=l.map c;show List.map (fun x:{ x:β // x∈l }=>c x.1) l.attach=l.map c;exact List.attach_map_val
     rw[fJ] at hn htk;have hle:d.size*k≤cur.size:=by rw[hds,hsz];exact gA _ hn
     have hH:HoldsK enc k w g 0 d:=by
      intro j hj;rw[size_flatK] at hj;rw[get_flatK enc k d j hj];have hq:j / k<d.size:=(Sp aQ).2 hj;have hm':j%k<k:=fR _ aQ;have hcell:w.cell? ⟨g,0+j,none⟩=cur[j]? := by rw[kN,cell_of_row w g j _ e _ hb]
      have hws:Ws k (l.map c):=h.1;have hat:=hws.at (j / k) (j%k) (c (l[j / k]'aQ)) (by simp[show j / k<l.length by omega]) hm';have hdm:j / k*k+j%k=j:=by rw[eZ];exact qM j k
      rw[hdm,←htk,wL,aG (by rw[hds] at hj;exact hj),Array.getElem?_toList] at hat
      have hdj:enc d[j / k]! = c (l[j / k]'aQ):=by
       have:d[j / k]! = ⟨l[j / k]'aQ,jJ _⟩:=by
        have hjl:j / k<d.size:=hq;rw[getElem!_pos d (j / k) hjl];show(l.attach.toArray)[j / k]'(by simpa using(show j / k<l.length by omega))=_;simp
       rw[this]
      refine⟨?_,?_⟩
      · rw[hcell,hat,hdj];have h5:j%k<(c (l[j / k]'aQ)).length:=by rw[hc];exact hm'
        simp[h5]
      · simp[World.frozen?,hb]
     have hcl:CmpLays P cf #[] enc k cfn g 0 d.size w:=fun mm os dk hs x y=>by
      have:=hcmp x.1 y.1 (sortWorldK enc k w g 0 mm dk os) (hbd _ x.2) (hbd _ y.2);simpa[enc,cfn] using this
     have hone:∀ x:A,∀ u∈enc x,u.oneCell'=true:=fun x u hu=>by
      have hws:Ws k (l.map c):=h.1;exact hws.one u (List.mem_flatten.2 ⟨c x.1,fP.2 ⟨x.1,x.2,rfl⟩,hu⟩)
     have:=AnyQ.slices_SortFunc_total L k aE zE enc (fun x=>hc x.1) hone cfn hO cf #[] g 0 cap d w eg hcl hH (lM.1 hb).1 aQ hT;rw[hds] at this;rw[fJ];refine this.mono ?_;rintro e' w' ⟨rfl,n,os,rfl⟩
     have hms:(d.toList.mergeSort fun x y => !(ltOf cfn) y x).map enc=(l.mergeSort fun a b=>decide (key a≤key b)).map c:=by
      have e1:(d.toList.mergeSort fun x y => !(ltOf cfn) y x).map Subtype.val=(l.mergeSort fun a b=>decide (key a≤key b)):=by
       rw[List.map_mergeSort (s:=fun a b=>decide (key a≤key b)) (fun a _ b _=>by rw[dX];by_cases hh:key b.1<key a.1<;>simp[hh]<;>omega)];congr 1;show List.map Subtype.val l.attach=l;simp
      rw[←e1,Y0];rfl
     have hsl:(d.toList.mergeSort fun x y => !(ltOf cfn) y x).toArray.size=l.length:=by rw[Sj,Sf];exact hds
     obtain⟨cur',q1,q2,q3,q4⟩:=Xgj enc k hk (fun x=>hc x.1) w g n (d.toList.mergeSort fun x y => !(ltOf cfn) y x).toArray os e cur hb (by rw[hsl,←hds];exact hle);rw[hsl,List.toList_toArray,hms] at q3;refine⟨_,rfl,⟨?_,.inr ⟨hz,cap,cur',?_,q1,?_,?_,?_,?_⟩⟩,by rw[hz];exact q4⟩
     · exact Qrf fun x _=>⟨hc x,h1 x⟩
     · rw[fJ,Sf]
     · rw[fJ,Sf];exact hn
     · exact hcap
     · rw[q2];exact hsz
     · rw[fJ,Sf];exact q3
end
end Go.Sx

end
section
namespace Go.Proofs.YtplcaaglieefgaaGreat.Mx
open Go Go.RowKit Go.Sx Go.Proofs Go.Shelf Go.Lib Go.Sort
def Qmt:Go.Shelf.Ren:=⟨fun|6=>298|15=>351|14=>350|28=>383|29=>384|20=>375|21=>376|22=>377|23=>378|24=>379|25=>380|26=>381|27=>382|46=>390|47=>391|48=>392|49=>393|50=>394|57=>403|n=>n,fun|22=>252|24=>193|25=>379|3=>3|39=>177|0=>0|53=>148|55=>22|4=>4|46=>437|45=>436|50=>179|5=>5|9=>9|66=>450|70=>239|76=>461|77=>204|n=>n,fun|n=>n⟩
theorem Xay:Go.Proofs.SlLaysF0.n6 Tryz.prog Qmt:={
 mixed:=by kernel_rfl
 f6:=⟨Tryz.f298.name,by decide,Tryz.func298.trans (cA some aZ)⟩
 f14:=⟨Tryz.f350.name,by decide,Tryz.func350.trans (cA some aZ)⟩
 f15:=Tryz.func351.trans (cA some aZ)
 f20:=⟨Tryz.f375.name,by decide,Tryz.func375.trans (cA some aZ)⟩
 f21:=⟨Tryz.f376.name,by decide,Tryz.func376.trans (cA some aZ)⟩
 f22:=⟨Tryz.f377.name,by decide,Tryz.func377.trans (cA some aZ)⟩
 f23:=⟨Tryz.f378.name,by decide,Tryz.func378.trans (cA some aZ)⟩
 f24:=⟨Tryz.f379.name,by decide,Tryz.func379.trans (cA some aZ)⟩
 f25:=⟨Tryz.f380.name,by decide,Tryz.func380.trans (cA some aZ)⟩
 f26:=⟨Tryz.f381.name,by decide,Tryz.func381.trans (cA some aZ)⟩
 f27:=⟨Tryz.f382.name,by decide,Tryz.func382.trans (cA some aZ)⟩
 f28:=Tryz.func383.trans (cA some aZ)
 f29:=Tryz.func384.trans (cA some aZ)
 f46:=⟨Tryz.f390.name,by decide,Tryz.func390.trans (cA some aZ)⟩
 f47:=Tryz.func391.trans (cA some aZ)
 f48:=Tryz.func392.trans (cA some aZ)
 f49:=⟨Tryz.f393.name,by decide,Tryz.func393.trans (cA some aZ)⟩
 f50:=⟨Tryz.f394.name,by decide,Tryz.func394.trans (cA some aZ)⟩
 f57:=⟨Tryz.f403.name,by decide,Tryz.func403.trans (cA some aZ)⟩
 t0:=Tryz.underlying0
 a0:=Tryz.isAgg0
 z0:=Tryz.sizeOf0
 v0:=Tryz.zeroValue0
 t3:=Tryz.underlying3
 a3:=Tryz.isAgg3
 z3:=Tryz.sizeOf3
 v3:=Tryz.zeroValue3
 t4:=Tryz.underlying4
 a4:=Tryz.isAgg4
 z4:=Tryz.sizeOf4
 v4:=Tryz.zeroValue4
 t5:=Tryz.underlying5
 a5:=Tryz.isAgg5
 z5:=Tryz.sizeOf5
 v5:=Tryz.zeroValue5
 t9:=Tryz.underlying9
 a9:=Tryz.isAgg9
 z9:=Tryz.sizeOf9
 v9:=Tryz.zeroValue9
 t22:=Tryz.underlying252
 a22:=Tryz.isAgg252
 z22:=Tryz.sizeOf252
 v22:=Tryz.zeroValue252
 t25:=Tryz.underlying379
 a25:=Tryz.isAgg379
 z25:=Tryz.sizeOf379
 v25:=Tryz.zeroValue379
 t39:=Tryz.underlying177
 a39:=Tryz.isAgg177
 z39:=Tryz.sizeOf177
 v39:=Tryz.zeroValue177
 t45:=Tryz.underlying436
 a45:=Tryz.isAgg436
 z45:=Tryz.sizeOf436
 v45:=Tryz.zeroValue436
 t46:=Tryz.underlying437
 a46:=Tryz.isAgg437
 z46:=Tryz.sizeOf437
 v46:=Tryz.zeroValue437
 t50:=Tryz.underlying179
 a50:=Tryz.isAgg179
 z50:=Tryz.sizeOf179
 v50:=Tryz.zeroValue179
 t53:=Tryz.underlying148
 a53:=Tryz.isAgg148
 z53:=Tryz.sizeOf148
 v53:=Tryz.zeroValue148
 t55:=Tryz.underlying22
 a55:=Tryz.isAgg22
 z55:=Tryz.sizeOf22
 v55:=Tryz.zeroValue22
 t66:=Tryz.underlying450
 a66:=Tryz.isAgg450
 z66:=Tryz.sizeOf450
 v66:=Tryz.zeroValue450
 t70:=Tryz.underlying239
 a70:=Tryz.isAgg239
 z70:=Tryz.sizeOf239
 v70:=Tryz.zeroValue239
 t76:=Tryz.underlying461
 a76:=Tryz.isAgg461
 z76:=Tryz.sizeOf461
 v76:=Tryz.zeroValue461
 t77:=Tryz.underlying204
 a77:=Tryz.isAgg204
 z77:=Tryz.sizeOf204
 v77:=Tryz.zeroValue204 }
theorem Xj9 {a b:Int}(ha:0≤a∧a<4611686018427387904)(hb:0≤b∧b<4611686018427387904):IntKind.i64.wrap (a-b)=a-b:=by rw[IntKind.wrap_i64];omega
set_option maxHeartbeats 1000000 in
theorem Qtl (x y:bG)(W:World)(hx:0≤x.Node∧x.Node<4611686018427387904)(hy:0≤y.Node∧y.Node<4611686018427387904):Calls Tryz.prog 299 #[.agg #[.int .i64 x.Node,.int .i64 x.Minus],.agg #[.int .i64 y.Node,.int .i64 y.Minus]] W fun e w'=>e=.returned (.int .i64 (x.Node-y.Node))∧∃ q os',w'=grow (W.drewN q) os':=by
 have hw:=Xj9 hx hy
 go_enter Tryz.func299,Tryz.ntmps299
 go_wp2
 go_ret
 exact⟨rfl,0,_,by rw[alloc_eq_grow,alloc_eq_grow,grow_grow];rfl⟩
theorem Xgi {l m:List bG}(hm:C9 bG.Node l=some m)(w:World)(z g:Nat)(v:Value)(h:aY w z g 193 2 v (l.map bG.cs)):Calls Tryz.prog 298 [v,.func (.func 299) #[] #[]].toArray w fun e' w'=>∃ v',e'=.returned v'∧(aY w' z g 193 2 v (m.map bG.cs)∧Kz [(z,g)] w w'):=
 Xgk (ρ:=Qmt) bG.cs 2 (fun _=>rfl) (fun x=>bG.cs_ones x) bV bG.Node 299 Xay (fun _=>by kernel_rfl) (fun _=>by kernel_rfl) (fun _ _=>by kernel_rfl) (fun x y W hx hy=>Qtl x y W hx hy) hm w z g 193 v h
end Go.Proofs.YtplcaaglieefgaaGreat.Mx

end
section
namespace Go.Sx
open Go Go.RowKit
abbrev iM (v:Value):List Value:=[v]
structure rG where
 v:Value
 z:Nat
 g:Nat
 q:List (Value × Nat)
def rG.bl (h:rG):List Nat:=zf h.z h.g++h.q.map Prod.snd
structure Lh (e1 e0:TypeId)(w:World)(h:rG)(l:List (List Int)):Prop where
 own:aY w h.z h.g e1 1 h.v ((h.q.map Prod.fst).map iM)
 len:h.q.length=l.length
 row:∀ (j:Nat) q r,h.q[j]? = some q→l[j]? = some r→aY w 1 q.2 e0 1 q.1 (r.map ic)
structure Vx (e2 e1 e0:TypeId)(w:World)(n0 z g:Nat)(v:Value)(L:List (List (List Int)))(H:List rG):Prop where
 own:aY w z g e2 1 v ((H.map rG.v).map iM)
 len:H.length=L.length
 sub:∀ (i:Nat) h l,H[i]? = some h→L[i]? = some l→Lh e1 e0 w h l
 nd:∀ (i:Nat) h,H[i]? = some h→h.bl.Nodup
 ap:∀ (i j:Nat) h k,i≠j→H[i]? = some h→H[j]? = some k→∀ x∈h.bl,x∉k.bl
 out:∀ (i:Nat) h,H[i]? = some h→∀ x∈h.bl,x≠g∧n0≤x∧x<w.heap.size
 top:z=1∧n0≤g
def oS (e2 e1 e0:TypeId)(w:World)(n0 z g:Nat)(v:Value)(L:List (List (List Int))):Prop:=∃ H,Vx e2 e1 e0 w n0 z g v L H
section
variable {e2 e1 e0:TypeId} {w w':World} {n0 z g:Nat} {v:Value} {L:List (List (List Int))} {H:List rG}
theorem Lh.keep {h:rG}{l:List (List Int)}(a:Lh e1 e0 w h l)(hb:∀ x∈h.bl,x<w.heap.size→w'.heap[x]? = w.heap[x]?):Lh e1 e0 w' h l:=by
 refine⟨a.own.keep ?_,a.len,fun j q r hj hr=>(a.row j q r hj hr).keep (.inr ?_)⟩
 · by_cases hz:h.z=0
   · exact .inl hz
   · exact .inr (hb _ (yR _ (vM.2 ⟨hz,rfl⟩)))
 · exact hb _ (Sh _ (fP.2 ⟨q,uA hj,rfl⟩))
theorem Vx.keep (a:Vx e2 e1 e0 w n0 z g v L H)(hs:w.heap.size≤w'.heap.size)(hb:∀ x,n0≤x→x<w.heap.size→w'.heap[x]? = w.heap[x]?):Vx e2 e1 e0 w' n0 z g v L H:=
 ⟨a.own.keep (.inr fun hl=>hb g a.top.2 hl),a.len,fun i h l hi hl=>(a.sub i h l hi hl).keep fun x hx hl2=>hb x (a.out i h hi x hx).2.1 hl2,a.nd,a.ap,fun i h hi x hx=>by
  obtain⟨b1,b2,b3⟩:=a.out i h hi x hx
  exact⟨b1,b2,iC b3 hs⟩,a.top⟩
theorem oS.gr (a:oS e2 e1 e0 w n0 z g v L)(k:Gr w w'):oS e2 e1 e0 w' n0 z g v L:=by
 obtain⟨H,a⟩:=a;exact⟨H,a.keep k.size fun x _ hl=>k.block x hl⟩
theorem oS.kz (a:oS e2 e1 e0 w n0 z g v L)(k:Kz [] w w'):oS e2 e1 e0 w' n0 z g v L:=by
 obtain⟨H,a⟩:=a;exact⟨H,a.keep k.size fun x _ hl=>k.block x hl trivial⟩
theorem oS.lth (a:oS e2 e1 e0 w n0 z g v L):bQ (z=0∨(z=1∧g<w.heap.size)):=by obtain⟨H,a⟩:=a;exact a.own.lth
theorem oS.oneB (a:oS e2 e1 e0 w n0 z g v L):Sx.oneB v=true:=by obtain⟨H,a⟩:=a;exact a.own.oneB
theorem Qzk {i:Int}{l:List (List Int)}(a:Vx e2 e1 e0 w n0 z g v L H)(hi:bJ L i=some l):∃ h,H[i.toNat]? = some h∧L[i.toNat]? = some l∧bJ (H.map rG.v) i=some h.v:=by
 have h1:=rO hi;have h0:=pQ hi;have dX:=(jP.1 h1).1;have hlt2:i.toNat<H.length:=by rw[a.len];exact dX
 exact⟨H[i.toNat],tZ hlt2,h1,by unfold bJ;rw[aG h0,qS,tZ hlt2];rfl⟩
theorem Xby {l:List Nat}(h:l.Nodup){i j:Nat}{x:Nat}(hi:l[i]? = some x)(hj:l[j]? = some x):i=j:=by
 obtain⟨a1,a2⟩:=jP.1 hi;obtain⟨b1,b2⟩:=jP.1 hj;exact(Qak (h₀:=a1) (h₁:=b1) h).1 (a2.trans b2.symm)
theorem oS.row {i j:Int}{l:List (List Int)}{r:List Int}(a:oS e2 e1 e0 w n0 z g v L)(hi:bJ L i=some l)(hj:bJ l j=some r):
 ∃ (hs qs:List Value) (vi:Value) (gi:Nat) (u:Value) (b:Nat),Rd w z g 0 1 v (hs.map iM)∧bJ hs i=some vi∧Rd w 1 gi 0 1 vi (qs.map iM)∧bJ qs j=some u∧aY w 1 b e0 1 u (r.map ic)∧
  bQ (1=0∨n0≤b)∧bQ (z=0∨1=0∨g≠b)∧bQ (1=0∨1=0∨gi≠b)∧bQ (1=0∨(1=1∧gi<w.heap.size))∧
  ∀ w' r',w.heap.size≤w'.heap.size→(∀ x,x<w.heap.size→x≠b→w'.heap[x]? = w.heap[x]?)→aY w' 1 b e0 1 u (r'.map ic)→oS e2 e1 e0 w' n0 z g v (L.set i.toNat (l.set j.toNat r')):=by
 obtain⟨H,a⟩:=a;obtain⟨h,hh,hl,hv⟩:=Qzk a hi;have s:=a.sub _ h l hh hl;have k1:=rO hj;have k0:=pQ hj;have dX:=(jP.1 k1).1;have hlt2:j.toNat<h.q.length:=by rw[s.len];exact dX
 obtain⟨q,hq⟩:∃ q,h.q[j.toNat]? = some q:=⟨_,tZ hlt2⟩;have o:=s.row _ q r hq k1
 have hz:h.z=1:=by
  rcases s.own.2 with⟨_,_,h0⟩|⟨h0,_⟩
  · have:(h.q.map Prod.fst).length=0:=by rw[←fJ (f:=iM),h0];rfl
    rw[fJ] at this;omega
  · exact h0
 have hqb:q.2∈h.bl:=Sh _ (fP.2 ⟨q,uA hq,rfl⟩);have hgb:h.g∈h.bl:=yR _ (vM.2 ⟨aQ,rfl⟩);obtain⟨n1,n2,n3⟩:=Qav.1 (a.nd _ h hh);have hne:h.g≠q.2:=n3 _ (vM.2 ⟨aQ,rfl⟩) _ (fP.2 ⟨q,uA hq,rfl⟩);obtain⟨b1,b2,b3⟩:=a.out _ h hh _ hqb;have hrd:=s.own.rd;rw[hz] at hrd;refine⟨H.map rG.v,h.q.map Prod.fst,h.v,h.g,q.1,q.2,a.own.rd,hv,hrd,?_,o,⟨.inr b2⟩,⟨.inr (.inr (H1 b1))⟩,⟨.inr (.inr hne)⟩,⟨.inr ⟨rfl,(a.out _ h hh _ hgb).2.2⟩⟩,?_⟩
 · unfold bJ;rw[aG k0,qS,hq];rfl
 · intro w' r' hs hk ho;have hgl:g<w.heap.size:=by have:=a.own.lt;have:=a.top;omega
   refine⟨H,a.own.keep (.inr fun hl=>hk g hl (H1 b1)),by rw[Ym];exact a.len,fun i' h' l' hi' hl'=>?_,a.nd,a.ap,fun i' h' hi' x hx=>by
    obtain⟨c1,c2,c3⟩:=a.out i' h' hi' x hx
    exact⟨c1,c2,iC c3 hs⟩,a.top⟩
   by_cases he:i'=i.toNat
   · subst he;rw[hh] at hi';obtain rfl:=jB hi';rw[Qao (jP.1 hl).1] at hl';obtain rfl:=jB hl';refine⟨s.own.keep (.inr fun hx=>hk _ hx hne),by rw[Ym];exact s.len,fun j' q' r'' hj' hr'=>?_⟩;by_cases hje:j'=j.toNat
     · subst hje;rw[hq] at hj';obtain rfl:=jB hj';rw[Qao dX] at hr';obtain rfl:=jB hr';exact ho
     · rw[List.getElem?_set_ne (H1 hje)] at hr';refine(s.row j' q' r'' hj' hr').keep (.inr fun hx=>hk _ hx fun hc=>?_);have x1:(h.q.map Prod.snd)[j']? = some q.2:=by rw[qS,hj'];simp[hc]
       have x2:(h.q.map Prod.snd)[j.toNat]? = some q.2:=by rw[qS,hq];rfl
       exact hje (Xby n2 x1 x2)
   · rw[List.getElem?_set_ne (H1 he)] at hl';exact(a.sub i' h' l' hi' hl').keep fun x hx hxl=>hk x hxl fun hc=>a.ap i' i.toNat h' h he hi' hh x hx (hc ▸ hqb)
theorem oS.mk {n:Nat}(o:aY w 1 g e2 1 v ((List.replicate n (.slice none 0 0:Value)).map iM))(hg:n0≤g):oS e2 e1 e0 w n0 1 g v (List.replicate n []):=by
 refine⟨List.replicate n ⟨.slice none 0 0,0,0,[]⟩,?_,by simp,fun i h l hi hl=>?_,fun i h hi=>?_,fun i j h k _ hi _ x hx=>?_,fun i h hi x hx=>?_,rfl,hg⟩
 · rw[List.map_replicate];exact o
 all_goals
  have:=Yi (uA hi);subst this
 · have:=Yi (uA hl);subst this;exact⟨cM w 0 e1 1,rfl,fun j q r hj _=>by simp at hj⟩
 · simp[rG.bl,zf]
 · simp[rG.bl,zf] at hx
 · simp[rG.bl,zf] at hx
end
section
variable {P:Program} {Ls:Slots} {w:World} {dst:Option Nat} {ty:TypeId} {pos:String} {af:Array Edge} {gu:Option (Nat × Bool)} {x y:Operand} {t:TypeId} {e2 e1 e0:TypeId}
end
end Go.Sx

end
section
namespace Go.Sx
open Go Go.RowKit
theorem Qdz {α:Type}{l:List α}{i:Int}{y n:α}(h:bJ l i=some y):bJ (l.set i.toNat n) i=some n:=by
 have h0:=pQ h;have h1:i.toNat<l.length:=by have:=xY h;omega
 unfold bJ;rw[aG h0,Qao h1]
def Vv (P:Program)(r:Option Nat)(n:Nat)(c:Code)(Q:Exit→List Deferred→Slots→World→Prop):Nat→List Deferred→Slots→World→Prop
 | 0,_,_,_=>False
 | m+1,D,L,w=>SW P r n c (mZ (Vv P r n c Q m) Q) D L w
section
variable {P:Program} {r:Option Nat} {n:Nat} {Q:Exit→List Deferred→Slots→World→Prop} {c:Code}
theorem sR {m:Nat}{D:List Deferred}{L:Slots}{w:World}(h:SW P r n c (mZ (Vv P r n c Q m) Q) D L w):Vv P r n c Q (m+1) D L w:=h
theorem Qp8:∀ (m:Nat) {D:List Deferred} {L:Slots} {w:World} {a:Act},Vv P r n c Q m D L w→fE n D L a→Code.roundsIn (Fw r) 0 P c (Da n Q) m a w
 | 0,_,_,_,_,h,_=>h.elim
 | m+1,D,L,w,a,h,ha=>by
  rw[roundsIn_succ];refine wpIn_mono (h a ha) fun e a' w' hh=>?_
  cases e with
  | normal=>obtain⟨D',L',h1,h2⟩:=hh;exact Qp8 m h2 h1
  | exit id=>exact hh
  | goto l=>exact hh
  | ret=>exact hh
  | panic c=>exact hh
  | outgrown=>exact hh
theorem Aw {D:List Deferred}{L:Slots}{w:World}(m:Nat)(h:Vv P r n c Q m D L w):SW P r n (.loop c) Q D L w:=fun a ha=>wpIn_loop_rounds m (Qp8 m h ha)
end
def G0 (kvs:List (Int × Value)):List MapEntry:=kvs.zipIdx.map fun x=>⟨.int .u8 x.1.1,x.1.2,x.2⟩
def Fo (w:World)(b:Nat)(kvs:List (Int × Value)):Prop:=w.heap[b]? = some (.map (G0 kvs).toArray kvs.length)
section
variable {w w':World} {b c z g:Nat} {kvs:List (Int × Value)} {l:List (Nat × Nat)}
theorem Fo.lt (h:Fo w b kvs):b<w.heap.size:=dX h
theorem Fo.gr (h:Fo w b kvs)(G:Gr w w'):Fo w' b kvs:=(G.block b h.lt).trans h
theorem Fo.md (h:Fo w b kvs)(M:Md c w w')(ne:b≠c:=by omega):Fo w' b kvs:=(M.block b ne).trans h
theorem Fo.ka (h:Fo w b kvs)(A:Ka z g w w')(hn:z=0∨g≠b:=by omega):Fo w' b kvs:=(A.block b h.lt aQ).trans h
theorem Fo.kz (h:Fo w b kvs)(K:Kz l w w')(hn:cY l b:=by simp only[cY,dB,dU,eQ,Mz,bO]<;>omega):Fo w' b kvs:=(K.block b h.lt hn).trans h
end
theorem Qzg (kvs:List (Int × Value))(k:Int)(v:Value):G0 (kvs++[(k,v)])=G0 kvs++[⟨.int .u8 k,v,kvs.length⟩]:=by
 unfold G0;rw[List.zipIdx_append,qB];simp
structure Oq (P:Program)(t K E:TypeId):Prop where
 und:P.underlying t=some (.map K E)
 key:P.underlying K=some (.int .u8)
section
variable {P:Program} {L:Slots} {w:World} {dst:Option Nat} {ty:TypeId} {pos:String} {af:Array Edge} {gu:Option (Nat × Bool)} {x y z:Operand} {t K E:TypeId} {b:Nat} {kvs:List (Int × Value)} {k:Int} {v:Value}
theorem Qit (e:Bool)(d:Nat)(h:P.underlying K=some (.int .u8)):(Instr.checkKey e (d+1) K (.int .u8 k)).run P w=.ok () w:=by
 simp[Instr.checkKey,run_underlying h]
theorem Qyo:EV P L ⟨dst,.makeMap t none,ty,pos,af,gu⟩ w fun v' w'=>∃ b,v'=.map (some b)∧w.heap.size≤b∧Fo w' b []∧Gr w w':=fun ρ hρ=>by
 refine .val (.map (some w.heap.size)) (w.alloc (.map #[] 0)) (by simp[execOp,Instr.makeMap,go_sem]) ⟨_,rfl,eO _,heap_alloc_new w _,(Below.refl _ _).alloc (eO _) _⟩
theorem rE (hm:Oq P t K E)(hx:ev L x=some (.map (some b)))(hy:ev L y=some (.int .u8 k))(hz:ev L z=some v)(hb:Fo w b kvs)(hf:Instr.findNow (.int .u8) (.int .u8 k) (G0 kvs) 0=some none):
 EV P L ⟨dst,.insert t x y z,ty,pos,af,gu⟩ w fun _ w'=>Fo w' b (kvs++[(k,v)])∧Md b w w':=fun ρ hρ=>by
 have hck:(Instr.checkKey false 10000 K (.int .u8 k)).run P w=.ok () w:=Qit false 9999 hm.key
 have hset:∀ o:Obj,(setObj b o).run P w=.ok () (w.putObj b o):=fun o=>by
  simp only[setObj,Sem.run,show w.heap[b]? = _ from hb];rfl
 have key:(Instr.mapUpdate t (.map (some b)) (.int .u8 k) v).run P w=.ok () (w.putObj b (.map (G0 (kvs++[(k,v)])).toArray (kvs++[(k,v)]).length)):=by
  unfold Instr.mapUpdate;simp only[Sem.run_bind,run_underlying hm.und,Result.andThen,MapKept.run_getObj_map hb,hck];unfold Instr.findKey;simp only[Sem.run_bind,run_underlying hm.key,Result.andThen];rw[hf];simp only[Sem.run_pure,Result.andThen];rw[hset,Qzg];simp
 refine .skip _ ?_ ⟨World.putObj_heap_same (Fo.lt hb),Md.put b _⟩;simp[execOp,hρ _ _ hx,hρ _ _ hy,hρ _ _ hz,key]
theorem Ii {i:Nat}(hm:Oq P t K E)(hx:ev L x=some (.map (some b)))(hy:ev L y=some (.int .u8 k))(hb:Fo w b kvs)(hf:Instr.findNow (.int .u8) (.int .u8 k) (G0 kvs) 0=some (some (i,v))):VV P L ⟨dst,.lookup t x y false,ty,pos,af,gu⟩ w v:=fun ρ hρ=>by
 refine nM ?_;rw[hρ _ _ hx,hρ _ _ hy];have hck:∀ e,(Instr.checkKey e 10000 K (.int .u8 k)).run P w=.ok () w:=fun e=>Qit e 9999 hm.key;unfold Instr.lookup;simp only[Sem.run_bind,run_underlying hm.und,Result.andThen,MapKept.run_getObj_map hb,Sem.run_pure,hck];unfold Instr.findKey;simp only[Sem.run_bind,run_underlying hm.key,Result.andThen];rw[hf];simp
end
end Go.Sx

end
section
namespace Go.Sx
open Go Go.RowKit
noncomputable section
end
end Go.Sx

end
section
namespace Go.Sx
open Go Go.RowKit
noncomputable section
end
end Go.Sx

end
section

end
section

end
section

end
section
namespace Go.Sx
open Go Go.RowKit
noncomputable section
structure Ow where
 a0:List Int
 a1:List Int
 a2:List Int
 a3:List Int
deriving DecidableEq,Inhabited
def Ow.cs (x:Ow)(v0:Value)(v1:Value)(v2:Value)(v3:Value):List Value:=[v0,v1,v2,v3]
structure Qhq where
 s:bX
 stride:Int
 rows:Ow
 states:Int
deriving DecidableEq,Inhabited
def Qhq.cs (x:Qhq)(v0:Value)(v1:Value)(v2:Value)(v3:Value):List Value:=[bv x.s.Kind,.int .i64 x.s.Depth,.int .i64 x.s.Degree,wv x.s.Group.P,wv x.s.Group.Q,wv x.s.Group.G,.int .i64 x.stride,v0,v1,v2,v3,.int .i64 x.states]
end
end Go.Sx

end
section

end
section
namespace Go.Sx
open Go Go.RowKit
noncomputable section
end
end Go.Sx

end
section
namespace Go.Sx
open Go Go.RowKit
noncomputable section
structure Qhl where
 Depth:Int
 Revoked:Int
 Storage:Int
 Headers:Int
 HeaderPrice:Int
 StoragePrice:Int
 Group:iK
deriving DecidableEq,Inhabited
def Qhl.cs (x:Qhl)  : List Value:=[.int .i64 x.Depth,.int .i64 x.Revoked,.int .i64 x.Storage,.int .i64 x.Headers,.int .i64 x.HeaderPrice,.int .i64 x.StoragePrice,wv x.Group.P,wv x.Group.Q,wv x.Group.G]
structure Ox where
 Kind:BitVec 8
 Fits:Bool
 Items:Int
 Points:Int
 Header:Int
 Storage:Int
 Cost:Int
 Witness:List Int
deriving DecidableEq,Inhabited
def Ox.cs (x:Ox)(v0:Value):List Value:=[bv x.Kind,.bool x.Fits,.int .i64 x.Items,.int .i64 x.Points,.int .i64 x.Header,.int .i64 x.Storage,.int .i64 x.Cost,v0]
structure Qhm where
 Choices:List Ox
 Best:BitVec 8
deriving DecidableEq,Inhabited
def Qhm.cs (x:Qhm)(v0:Value):List Value:=[v0,bv x.Best]
end
end Go.Sx

end
section

end
section
namespace Go.Sx
open Go Go.RowKit
noncomputable section
end
end Go.Sx

end
section

end
section
namespace Go.Sx
open Go
theorem fQ {n:Nat}(h:n<9223372036854775808):n<aI:=by unfold aI;omega
theorem dR {n:Int}(h0 : -9223372036854775808≤n)(h1:n≤9223372036854775807):aT n=n:=by
 have:=IntKind.wrap_i64 n;unfold aT;rw[this];omega
theorem aJ {α β:Type}(a:α)(f:α→Option β):Option.bind (some a) f=f a:=rfl
theorem mW {α:Type}{b:Nat}{l m:List α}(h:(l.length+m.length)*b≤140737488355328):gI b l m=some (l++m):=aG h
theorem cF {α:Type}{l:List α}{i:Nat}(h:i<l.length):bJ l (i:Int)=some l[i]:=by unfold bJ;rw[aG aQ];simp[h]
theorem Vd {α:Type}(l:List α)(i:Nat)(h:i<l.length):l.take (i+1)=l.take i++[l[i]]:=by rw[List.take_add_one];simp[h]
def w8 (x:BitVec 64):List (BitVec 8):=[gU x 0,gU x 1,gU x 2,gU x 3,gU x 4,gU x 5,gU x 6,gU x 7]
theorem Iu (x:BitVec 64):(w8 x).length=8:=rfl
end Go.Sx

end
section
namespace Go.Sx
open Go
theorem kW (n k:Nat)(h:2^k≤n):Nat.log2 n=Nat.log2 (n / 2^k)+k:=by
 induction k generalizing n with
 | zero=>simp
 | succ k ih=>
  have h2:2^k≤n / 2:=by rw[yA aQ];rw[eS] at h;omega
  have h1:2≤n:=by have:0<2^k:=fI k;rw[eS] at h;omega
  rw[Sr,aG h1,ih (n / 2) h2,iB,eS,eZ 2];omega
theorem sH {n:Nat}(h:2≤n):Nat.log2 n=Nat.log2 (n / 2)+1:=by rw[Sr,aG h]
theorem Qem {m n:Nat}(h:m≤n):Nat.log2 m≤Nat.log2 n:=by
 rcases rR m with h0|h0
 · subst h0;rw[Nat.log2_zero];omega
 · exact(A6 aQ).2 (eK (Ys aQ) h)
theorem Xw {n:Nat}(h:n<9223372036854775808):Nat.log2 n≤62:=by
 rcases rR n with h0|h0
 · subst h0;rw[Nat.log2_zero];omega
 · have:Nat.log2 n<63:=(oQ aQ).2 aQ;omega
theorem Xhy {n:Nat}(h:n<9223372036854775808):un (wd (n:Int))=(n:Int):=Az _ aQ aQ
theorem Xba {n:Nat}(h:1≤n):lg (n:Int)=(Nat.log2 n:Int)+1:=by unfold lg;rw[jZ,aH aQ]
theorem Pz {n:Nat}(h1:1≤n)(h:n<9223372036854775808):tN (n:Int)=some (Nat.log2 n:Int):=by
 have:=Xw h;unfold tN;rw[Xhy h,Xba h1,dR aQ aQ,Int.add_sub_cancel]
theorem Qfj (n:Nat)(h:n<9223372036854775808):sL (n:Int) 2=some ((n / 2:Nat):Int):=by
 unfold sL;rw[aH bV,show(n:Int).tdiv 2=((n / 2:Nat):Int) from by rw[Qae aQ];omega,dR aQ aQ]
theorem Qp2:∀ (f n k:Nat),n<9223372036854775808→Nat.log2 n<f→k+Nat.log2 n≤1000→aC Qfw f ((n:Int),(k:Int))=some ((k+Nat.log2 n:Nat):Int)
 | 0,n,k,_,h,_=>by omega
 | f+1,n,k,h,hf,hk=>by
  rw[dW];simp only[Qfw];by_cases h2:2≤n
  · have hh:=sH h2;rw[aG aQ,Qfj n h,aJ,dR aQ aQ];have:=Qp2 f (n / 2) (k+1) aQ aQ aQ;rw[show(k:Int)+1=((k+1:Nat):Int) from by omega,this,hh];congr 2;omega
  · rw[aH aQ];have:Nat.log2 n=0:=by rw[Sr,aH aQ]
    rw[this,tV]
theorem Xf6 {n:Nat}(h:n<9223372036854775808):Qfv (n:Int)=some (Nat.log2 n:Int):=by
 have:=Xw h;have:=Qp2 aI n 0 h (fQ aQ) aQ;unfold Qfv;rw[show(0:Int)=((0:Nat):Int) from rfl,this,kN]
def cI (w v:Nat):Bool:=decide (Nat.log2 v≤Nat.log2 w∧w / 2^(Nat.log2 w-Nat.log2 v)=v)
theorem Qse {w v:Nat}(hv:1≤v)(h:v<w):cI w v=cI (w / 2) v:=by
 have hh:=sH (n:=w) aQ;have hm:=Qem (nV h);unfold cI;by_cases hl:Nat.log2 v≤Nat.log2 (w / 2)
 · have e:Nat.log2 w-Nat.log2 v=(Nat.log2 (w / 2)-Nat.log2 v)+1:=by omega
   have e2:w / 2^(Nat.log2 w-Nat.log2 v)=w / 2 / 2^(Nat.log2 (w / 2)-Nat.log2 v):=by rw[e,iB,eS,eZ 2]
   rw[e2];apply lQ.2;constructor
   · rintro⟨_,h2⟩;exact⟨hl,h2⟩
   · rintro⟨_,h2⟩;exact⟨hm,h2⟩
 · rw[cJ (p:=_∧w / 2 / 2^_=v) (fun hc=>hl hc.1)];apply cJ;rintro⟨_,h2⟩;rw[show Nat.log2 w-Nat.log2 v=0 from by omega,pR,yU] at h2;omega
theorem Qsd {w v:Nat}(hw:1≤w)(h:w≤v):cI w v=decide (w=v):=by
 unfold cI;by_cases e:w=v
 · subst e;simp
 · rw[cJ e];apply cJ;rintro⟨h1,h2⟩;have:=Qem h;rw[show Nat.log2 w-Nat.log2 v=0 from by omega,pR,yU] at h2;exact e h2
theorem Ad (n k:Nat)(hk:k≤64):xO (n:Int) k=((n / 2^k:Nat):Int):=by
 unfold xO;rw[oB hk,Yf,E6];rfl
theorem Qbo {w v:Nat}(hw:1≤w)(hv:1≤v)(hw2:w<9223372036854775808)(hv2:v<9223372036854775808):vP (w:Int) (v:Int)=some (cI w v):=by
 have l1:=Xw hw2;have l2:=Xw hv2;unfold vP P7;rw[aH aQ,aH aQ,Pz hw hw2,aJ,Pz hv hv2,aJ];by_cases h:Nat.log2 w<Nat.log2 v
 · rw[cS aQ];unfold cI;rw[cJ aQ];rfl
 · rw[cJ aQ];simp only[cH];rw[aJ,aJ,dR aQ aQ];have:eD ((Nat.log2 w:Int)-(Nat.log2 v:Int))=some (Nat.log2 w-Nat.log2 v):=by unfold eD;rw[aG aQ];congr 1;omega
   rw[this,aJ,Ad _ _ aQ];unfold cI;congr 1;apply lQ.2;constructor
   · intro h3;exact⟨aQ,aQ⟩
   · intro h3;omega
theorem Qom {v:Nat}(hv:1≤v):∀ (f w:Nat),1≤w→w<9223372036854775808→Nat.log2 w<f→aC (Qfs (v:Int)) f (w:Int)=some (cI w v)
 | 0,w,_,_,h=>by omega
 | f+1,w,hw,hw2,hf=>by
  rw[dW];simp only[Qfs];by_cases h:v<w
  · have hh:=sH (n:=w) aQ;rw[aG aQ,Qfj w hw2,aJ,Qom hv f (w / 2) aQ aQ aQ,Qse hv h]
  · rw[aH aQ,Qsd hw aQ];congr 1;apply lQ.2;omega
theorem Um {w v:Nat}(hw:1≤w)(hv:1≤v)(hw2:w<9223372036854775808):Tx (w:Int) (v:Int)=some (cI w v):=by
 have:=Xw hw2;exact Qom hv aI w hw hw2 (fQ aQ)
def mX (d:Nat):Nat:=if d≤1 then 1 else if d≤4 then 2 else 3
theorem Qpz (d:Nat):1≤mX d:=by unfold mX;split;omega;split<;>omega
theorem Qfk:∀ d:Fin 7,Z4 (d.1:Int)=some ((2^d.1:Nat):Int):=by decide +kernel
theorem Uo {d:Nat}(h:d≤6):Z4 (d:Int)=some ((2^d:Nat):Int):=Qfk ⟨d,aQ⟩
theorem Xgu:∀ d:Fin 7,Qfy (d.1:Int)=some ((mX d.1:Nat):Int):=by decide +kernel
theorem Xfe {d:Nat}(h:d≤6):Qfy (d:Int)=some ((mX d:Nat):Int):=Xgu ⟨d,aQ⟩
theorem iG {d:Nat}(h:d≤6):2^d≤64:=eK (fD aQ h) bV
theorem C4 {d:Nat}(h:d≤6):lF 1 d=((2^d:Nat):Int):=by
 have:=iG h;unfold lF;rw[oB aQ,Int.one_mul,show(2:Int)^d=((2^d:Nat):Int) from by rw[E6];rfl];generalize 2^d=m at *;exact dR aQ aQ
theorem Z9 (n:Nat):eD (n:Int)=some n:=by unfold eD;rw[aG aQ];rfl
theorem Qgk {k:BitVec 8}{d:Nat}{st:Int}(h:d≤6):D9 ⟨k,(d:Int),st⟩=some ((2^d:Nat):Int):=by
 unfold D9;rw[Z9,aJ,C4 h]
def pO (d:Nat)(v:Int):Bool:=decide (1≤v∧v<2*(2^d:Nat))
theorem Qlx {k:BitVec 8}{d:Nat}{st v:Int}(h:d≤6):Qr ⟨k,(d:Int),st⟩ v=some (pO d v):=by
 have:=iG h;unfold Qr pO;by_cases h1:1≤v
 · rw[aG h1,Qgk h,aJ];generalize 2^d=m at *;rw[dR aQ aQ];congr 1;apply lQ.2;omega
 · rw[aH h1];congr 1;symm;apply cJ;omega
theorem Xz {d:Nat}{v:Int}(h:d≤6):Ur (d:Int) v=some (pO d v):=by
 have:=iG h;unfold Ur pO;by_cases h1:1≤v
 · rw[aG h1,Uo h,aJ];generalize 2^d=m at *;rw[dR aQ aQ];congr 1;apply lQ.2;omega
 · rw[aH h1];congr 1;symm;apply cJ;omega
theorem Ct {d:Nat}{v:Int}(hd:d≤6)(h:pO d v=true):∃ n:Nat,v=(n:Int)∧1≤n∧n<128:=by
 have:=iG hd;unfold pO at h;generalize 2^d=m at *;have:=iX h;exact⟨v.toNat,aQ,aQ,aQ⟩
def lR (d v:Nat):Bool:=decide (Nat.log2 v%mX d=0)
theorem Uz (a b:Nat)(hb:1≤b):rW (a:Int) (b:Int)=some ((a%b:Nat):Int):=by
 unfold rW;rw[aH aQ,Int.tmod_eq_emod_of_nonneg aQ,Qad]
theorem Qgm {k:BitVec 8}{d v:Nat}(hv:1≤v)(hv2:v<9223372036854775808):vD ⟨k,(d:Int),(mX d:Int)⟩ (v:Int)=some (lR d v):=by
 unfold vD lR;rw[Pz hv hv2,aJ,Uz _ _ (Qpz d),aJ];congr 1;apply lQ.2;omega
theorem Qgc {d v:Nat}(hd:d≤6)(hv2:v<9223372036854775808):Ga (d:Int) (v:Int)=some (lR d v):=by
 unfold Ga lR;rw[Xf6 hv2,aJ,Xfe hd,aJ,Uz _ _ (Qpz d),aJ];congr 1;apply lQ.2;omega
def fC (w:Nat):Nat→List Nat
 | 0=>[]
 | k+1=>w / 2^k::fC w k
theorem Qf8 (w k:Nat):fC w (k+1)=fC (w / 2) k++[w]:=by
 induction k with
 | zero=>simp[fC]
 | succ k ih=>rw[fC,ih,fC,uE,iB,eS,eZ 2]
theorem Zz (w k:Nat):(fC w k).length=k:=by
 induction k with
 | zero=>rfl
 | succ k ih=>simp[fC,ih]
theorem Qo5 {w k n:Nat}(hk:2^k≤w)(h:n∈fC w k):1≤n∧n≤w:=by
 induction k with
 | zero=>cases h
 | succ k ih=>
  have hk':2^k≤w:=by rw[eS] at hk;omega
  rcases gW.1 h with rfl|h
  · exact⟨(yA (fI k)).2 aQ,rF _ _⟩
  · exact ih hk' h
theorem Qel {w k:Nat}(hk:2^k≤w):Nat.log2 (w / 2^k)=Nat.log2 w-k:=by have:=kW w k hk;omega
theorem tS {w k:Nat}(hk:2^k≤w):1≤w / 2^k:=(yA (fI k)).2 aQ
theorem Xhg {w k:Nat}(hk:2^(k+1)≤w)(hw:w<9223372036854775808):zH ((w / 2^(k+1):Nat):Int) (w:Int)=some ((w / 2^k:Nat):Int):=by
 have hp:=fI (k+1);have l1:=Xw hw;have hl:=kW w (k+1) hk;unfold zH;rw[Pz aQ hw,aJ,Pz (tS hk) (rB (rF _ _) hw),aJ,dR (n:=(Nat.log2 w:Int)-(Nat.log2 (w / 2^(k+1)):Int)) aQ aQ,dR aQ aQ];rw[show(Nat.log2 w:Int)-(Nat.log2 (w / 2^(k+1)):Int)-1=((k:Nat):Int) from by omega,Z9,aJ,Ad _ _ aQ]
theorem Qo7 {w:Nat}(hw:w<9223372036854775808):∀ (k f:Nat),k<f→2^k≤w→aC (D2 (w:Int)) f ((w / 2^k:Nat):Int)=some ((fC w k).map Int.ofNat)
 | k,0,h,_=>by omega
 | 0,f+1,_,_=>by
  rw[dW];simp only[D2];rw[aH bW];rfl
 | k+1,f+1,h,hk=>by
  rw[dW];simp only[D2];have h1:w / 2^(k+1)<w:=Nat.div_lt_self (by have:=fI (k+1);omega) (Nat.one_lt_two_pow aQ);rw[aG aQ,Xhg hk hw,aJ,Qo7 hw k f aQ (by rw[eS] at hk;omega)];rfl
theorem Qo6 {w k:Nat}(hw:w<9223372036854775808)(hk:2^k≤w)(hk2:k≤64):Qp ((w / 2^k:Nat):Int) (w:Int)=some ((fC w k).map Int.ofNat):=Qo7 hw k aI (fQ aQ) hk
theorem Bg {w j k:Nat}(hk:2^k≤w)(hj:j<k):w / 2^j≠w / 2^k:=fun e=>by
 have h1:=Qel hk;have h2:=Qel (w:=w) (k:=j) (eK (fD aQ aQ) hk);have h3:=kW w k hk;rw[e] at h2;omega
theorem Qpb {w k:Nat}(hw:w<9223372036854775808)(hk:2^k≤w)(hk2:k≤64):∀ (m j f:Nat),j+m=k→m<f→aC (Uu ((w / 2^k:Nat):Int)) f (((w / 2^j:Nat):Int),(fC w j).map Int.ofNat)=some (((w / 2^k:Nat):Int)::(fC w k).map Int.ofNat)
 | m,j,0,_,h=>by omega
 | 0,j,f+1,hj,_=>by
  obtain rfl:j=k:=by omega
  rw[dW];simp only[Uu];rw[aH bW,mW (by simp[Zz];omega),aJ];rfl
 | m+1,j,f+1,hj,hf=>by
  rw[dW];simp only[Uu];have hne:=Bg hk (show j<k by omega);have dX:w / 2^j<9223372036854775808:=rB (rF _ _) hw;rw[aG aQ,mW (by simp[Zz];omega),aJ,Qfj _ dX,aJ,iB,←eS];exact Qpb hw hk hk2 m (j+1) f aQ aQ
theorem Qpa {w k:Nat}(hw:w<9223372036854775808)(hk:2^k≤w)(hk2:k≤64):Ut ((w / 2^k:Nat):Int) (w:Int)=some (((w / 2^k:Nat):Int)::(fC w k).map Int.ofNat):=by
 have:=Qpb hw hk hk2 k 0 aI aQ (fQ aQ);rw[pR,yU] at this;exact this
end Go.Sx

end
section
namespace Go.Sx
open Go
def zG:iK:=iK.mk 0#64 0#64 0#64
def gQ (s:bX):Bool:=decide (1#8≤s.Kind∧s.Kind≤3#8∧0≤s.Depth∧s.Depth≤6∧s.Degree=0∧s.Group=zG)
theorem J4 (s:bX):Uv s=some (gQ s):=by
 unfold Uv gQ zG;by_cases h1:1#8≤s.Kind
 · by_cases h2:s.Kind≤3#8
   · by_cases h3:0≤s.Depth
     · by_cases h4:s.Depth≤6
       · by_cases h5:s.Degree=0
         · simp[h1,h2,h3,h4,h5]
         · simp[h1,h2,h3,h4,h5]
       · simp[h1,h2,h3,h4]
     · simp[h1,h2,h3]
   · simp[h1,h2]
 · simp[h1]
theorem Ve {s:bX}(h:gQ s=true):∃ d:Nat,s.Depth=(d:Int)∧d≤6:=by
 unfold gQ at h;have:=iX h;exact⟨s.Depth.toNat,aQ,aQ⟩
theorem Qgt (s:bX)(n:Nat)(a:Int):aC (D3 s) (n+1) a=if aT (a*a)<s.Depth then aC (D3 s) n (aT (a+1)) else some (cX.mk s.Kind s.Depth a,true):=rfl
theorem Xhh (s:bX){d:Nat}(hd:s.Depth=(d:Int))(h:d≤6):aC (D3 s) aI 1=some (cX.mk s.Kind (d:Int) (mX d:Int),true):=by
 have e1:aT (1*1)=1:=by decide
 have e2:aT (1+1)=2:=by decide
 have e3:aT (2*2)=4:=by decide
 have e4:aT (2+1)=3:=by decide
 have e5:aT (3*3)=9:=by decide
 rw[show aI=18446744073709551613+3 from rfl,Qgt,e1,e2,hd];unfold mX;by_cases h1:d≤1
 · rw[aH aQ,aG h1,←hd];rfl
 · rw[aG aQ,aH h1,show 18446744073709551613+2=18446744073709551614+1 from rfl,Qgt,e3,e4,hd];by_cases h2:d≤4
   · rw[aH aQ,aG h2,←hd];rfl
   · rw[aG aQ,aH h2,show 18446744073709551614=18446744073709551613+1 from rfl,Qgt,e5,hd,aH aQ,←hd];rfl
def eA (s:bX):cX:=cX.mk s.Kind s.Depth (mX s.Depth.toNat:Int)
theorem Ni (s:bX):Qq s=some (if gQ s then(eA s,true) else(cX.mk 0#8 0 0,false)):=by
 unfold Qq zP;by_cases hv:gQ s=true
 · rw[aG hv];obtain⟨d,hd,h6⟩:=Ve hv;unfold gQ at hv;obtain⟨h1,h2,h3,h4,h5,h7⟩:=iX hv;have hs:s=bX.mk s.Kind s.Depth 0 (iK.mk 0#64 0#64 0#64):=by cases s;simp only at *;rw[h5,h7];rfl
   rw[aH (by rw[Ln];exact h1),aH (by rw[Ln];exact h2),aH aQ,aH aQ,cJ (by simpa using hs)];simp only[cH];rw[Xhh s hd h6];unfold eA;rw[hd,jZ]
 · rw[aH hv];have hn:¬ (1#8≤s.Kind∧s.Kind≤3#8∧0≤s.Depth∧s.Depth≤6∧s.Degree=0∧s.Group=zG):=fun h=>hv (by unfold gQ;exact cS h);by_cases h1:s.Kind<1#8
   · rw[aG h1];rfl
   · rw[aH h1];by_cases h2:3#8<s.Kind
     · rw[aG h2];rfl
     · rw[aH h2];by_cases h3:s.Depth<0
       · rw[aG h3];rfl
       · rw[aH h3];by_cases h4:(6:Int)<s.Depth
         · rw[aG h4];rfl
         · rw[aH h4,cS (p:=s≠_)]
           · rfl
           · intro hs;refine hn ⟨Ln.1 h1,Ln.1 h2,aQ,aQ,?_,?_⟩
             · rw[hs]
             · rw[hs];rfl
def nL (d:Nat)(l:List Nat):Nat:=(l.find? (lR d)).getD 0
theorem Qli {k:BitVec 8}{d:Nat}:∀ (l:List Nat),(∀ n∈l,1≤n∧n<9223372036854775808)→
 fU (Qn ⟨k,(d:Int),(mX d:Int)⟩) Ww (l.map Int.ofNat) 0=some ((nL d l:Nat):Int)
 | [],_=>rfl
 | a::l,h=>by
  rw[qC,sJ];simp only[Qn];have ha:=h a bW;rw[show(Int.ofNat a)=(a:Int) from rfl,Qgm ha.1 ha.2,aJ];unfold nL;rw[Ly]
  cases hs:lR d a with
  | true=>rfl
  | false=>exact Qli l (fun n hn=>h n (by simp[hn]))
theorem Qi9 {d:Nat}(hd:d≤6)(v m:Nat)(l:List Nat)(hl:l.length≤64)(hb:∀ n∈l,n<9223372036854775808):∀ (r:List Nat) (j f:Nat),j+r.length=l.length→l.drop j=r→r.length<f→
 aC (Ux (d:Int) ((v:Int)::(l++[m]).map Int.ofNat)) f ((j+1:Nat):Int)=some ((nL d r:Nat):Int)
 | r,j,0,_,_,h=>by omega
 | [],j,f+1,hj,hr,_=>by
  rw[dW];simp only[Ux];rw[dR (by simp;omega) (by simp;omega),aH (by simp;simp at hj;omega)];rfl
 | a::r,j,f+1,hj,hr,hf=>by
  rw[dW];simp only[Ux];have hjl:j<l.length:=by simp at hj;omega
  have ha:l[j]=a:=by
   have:=nZ hjl;rw[hr] at this;exact(Yh this).1.symm
  have hr':l.drop (j+1)=r:=by
   have:=nZ hjl;rw[hr] at this;exact(Yh this).2.symm
  have hg:bJ ((v:Int)::(l++[m]).map Int.ofNat) ((j+1:Nat):Int)=some (a:Int):=by
   rw[cF (by simp;omega)];simp only[qB,Se,List.getElem_append_left (show j<(l.map Int.ofNat).length by simpa using hjl),oR,ha];rfl
  rw[dR (by simp;omega) (by simp;omega),aG (by simp;omega),hg,aJ,Qgc hd (hb a (by rw[←ha];exact jJ hjl)),aJ];unfold nL;rw[Ly]
  cases hs:lR d a with
  | true=>rfl
  | false=>
   simp only[cH];rw[dR (by simp at hj;omega) (by simp at hj;omega),show((j+1:Nat):Int)+1=((j+1+1:Nat):Int) from by omega];exact Qi9 hd v m l hl hb r (j+1) f (by simp at hj ⊢;omega) hr' (by simp at hf;omega)
theorem I7 {m n:Nat}(hm:1≤m)(hn:1≤n)(h:cI m n=true)(hne:m≠n):∃ k,Nat.log2 m-Nat.log2 n=k+1∧n=m / 2^(k+1)∧2^(k+1)≤m:=by
 unfold cI at h;obtain⟨h1,h2⟩:=iX h;have h3:Nat.log2 m-Nat.log2 n≠0:=fun e=>by rw[e,pR,yU] at h2;exact hne h2
 refine⟨Nat.log2 m-Nat.log2 n-1,aQ,?_,?_⟩
 · rw[show Nat.log2 m-Nat.log2 n-1+1=Nat.log2 m-Nat.log2 n from by omega];exact h2.symm
 · rw[show Nat.log2 m-Nat.log2 n-1+1=Nat.log2 m-Nat.log2 n from by omega];exact eK (fD aQ aQ) (Ys aQ)
theorem Qlw {m k:Nat}(h:2^(k+1)≤m):2^k≤m / 2:=by rw[yA aQ];rw[eS] at h;omega
theorem Qj9 {kd:BitVec 8}{d m k:Nat}(hm:m<128)(hk:2^(k+1)≤m)(hk2:k≤60):wA ⟨kd,(d:Int),(mX d:Int)⟩ ((m / 2^(k+1):Nat):Int) (m:Int)=some ((nL d (fC (m / 2) k):Nat):Int):=by
 unfold wA P9 Rs;rw[show eD (un 1#64)=some 1 from by decide,aJ,aJ,Ad _ _ aQ,Sw];simp only;have e:m / 2^(k+1)=m / 2 / 2^k:=by rw[iB,eS,eZ 2]
 have hp:=Qlw hk;rw[e,Qo6 aQ hp aQ,aJ,Qli _ (fun n hn=>by have:=Qo5 hp hn;omega),aJ]
theorem Qi8 {d m k:Nat}(hd:d≤6)(hm:m<128)(hk:2^(k+1)≤m)(hk2:k≤60):Uw (d:Int) ((m / 2^(k+1):Nat):Int) (m:Int)=some ((nL d (fC (m / 2) k):Nat):Int):=by
 have hp:=Qlw hk;unfold Uw;rw[Qpa aQ hk aQ,aJ,Qf8];have:=Qi9 hd (m / 2^(k+1)) m (fC (m / 2) k) (by rw[Zz];omega) (fun n hn=>by have:=Qo5 hp hn;omega) (fC (m / 2) k) 0 aI aQ rfl (fQ (by rw[Zz];omega));exact this
theorem N6 {m k:Nat}(h:2^k≤m)(hm:m<128):k≤6:=by
 have h1:=(A6 (n:=m) (by have:=fI k;omega)).2 h;have h2:Nat.log2 m<7:=(oQ (by have:=fI k;omega)).2 aQ;omega
def V0 (s:bX)(x:bG):Prop:=pO s.Depth.toNat x.Node=true∧(s.Kind=1#8∨x.Minus=0∨(∃ m n k:Nat,x.Minus=(m:Int)∧x.Node=(n:Int)∧n=m / 2^(k+1)∧2^(k+1)≤m∧m<128∧k≤6∧1≤n))
theorem Xh1 (s:bX)(hv:gQ s=true)(x:bG):∃ b,tL (eA s) x=some b∧uY s x=some b∧(b=true→V0 s x):=by
 obtain⟨d,hd,h6⟩:=Ve hv;have ht:eA s=⟨s.Kind,(d:Int),(mX d:Int)⟩:=by unfold eA;rw[hd,jZ]
 rw[ht];unfold tL uY;rw[hd,Qlx h6,Xz h6,aJ,aJ];have hno:false=true→V0 s x:=fun h=>by cases h
 cases h1:pO d x.Node with
 | false=>exact⟨false,rfl,rfl,hno⟩
 | true=>
  have hsd:pO s.Depth.toNat x.Node=true:=by rw[hd,jZ];exact h1
  simp only[fF,cH];obtain⟨n,hn,hn1,hn2⟩:=Ct h6 h1;by_cases hk:s.Kind=1#8
  · rw[aG hk,aG hk];unfold Qu;rw[dC];by_cases hm:x.Minus=0
    · rw[aG hm,aG hk];exact⟨true,rfl,by rw[cS hm],fun _=>⟨hsd,.inl hk⟩⟩
    · rw[aH hm];exact⟨false,rfl,by rw[cJ hm],hno⟩
  · rw[aH hk,aH hk];unfold Qu;by_cases hm:x.Minus=0
    · rw[cS hm,dC,aG hm,aH hk,aG hm];exact⟨_,rfl,rfl,fun _=>⟨hsd,.inr (.inl hm)⟩⟩
    · rw[cJ hm,cH,aH hm,Qlx h6,Xz h6,aJ,aJ];have hf:∃ b,T0 ⟨s.Kind,(d:Int),(mX d:Int)⟩ x true=some b∧R9 s x true=some b∧(b=true→V0 s x):=⟨false,rfl,rfl,hno⟩
      cases h2:pO d x.Minus with
      | false=>exact hf
      | true=>
       rw[fF,cH,cH];obtain⟨m,hm1,hm2,hm3⟩:=Ct h6 h2;by_cases he:x.Minus=x.Node
       · rw[aG he,aG he];exact hf
       · have e1:vP x.Minus x.Node=some (cI m n):=by rw[hm1,hn];exact Qbo hm2 hn1 aQ aQ
         have e2:Tx x.Minus x.Node=some (cI m n):=by rw[hm1,hn];exact Um hm2 hn1 aQ
         rw[aH he,aH he,e1,e2,aJ,aJ]
         cases h3:cI m n with
         | false=>exact hf
         | true=>
          obtain⟨k,hk0,hk1,hk2⟩:=I7 hm2 hn1 h3 aQ;have hkl:=N6 hk2 hm3;have hok:∀ b:Bool,b=true→V0 s x:=fun b _=>⟨hsd,.inr (.inr ⟨m,n,k,hm1,hn,hk1,hk2,hm3,aQ,hn1⟩)⟩;unfold T0 R9;rw[fF,cH,cH];by_cases hk3:s.Kind=2#8
          · rw[aG hk3,aG hk3];exact⟨true,rfl,rfl,hok true⟩
          · have e3:vD ⟨s.Kind,(d:Int),(mX d:Int)⟩ x.Node=some (lR d n):=by rw[hn];exact Qgm hn1 aQ
            have e4:Ga s.Depth x.Node=some (lR d n):=by rw[hn,hd];exact Qgc h6 aQ
            rw[aH hk3,aH hk3,e3,e4,aJ,aJ]
            cases hs:lR d n with
            | true=>exact⟨true,rfl,rfl,hok true⟩
            | false=>
             rw[cH,cH];have e5:wA ⟨s.Kind,(d:Int),(mX d:Int)⟩ x.Node x.Minus=some ((nL d (fC (m / 2) k):Nat):Int):=by rw[hn,hm1,hk1];exact Qj9 hm3 hk2 aQ
             have e6:Uw s.Depth x.Node x.Minus=some ((nL d (fC (m / 2) k):Nat):Int):=by rw[hn,hm1,hd,hk1];exact Qi8 h6 hm3 hk2 aQ
             rw[e5,e6,aJ];exact⟨_,rfl,rfl,hok _⟩
end Go.Sx

end
section
namespace Go.Sx
open Go
theorem Qlk {α σ τ R:Type}(l:List α)(F:(τ→Option R)→τ→Option R)(pk:Nat→σ→τ)(B:α→(σ→Option R)→σ→Option R)(D:σ→Option R)
 (h1:∀ rec (j:Nat) (hj:j<l.length) s,F rec (pk j s)=B l[j] (fun s'=>rec (pk (j+1) s')) s) (h2:∀ rec s,F rec (pk l.length s)=D s):
 ∀ (m j f:Nat) (s:σ),j+m=l.length→m<f→aC F f (pk j s)=fU B D (l.drop j) s
 | m,j,0,s,_,h=>by omega
 | 0,j,f+1,s,hj,_=>by
  have:j=l.length:=by omega
  subst this;rw[dW,h2,tX];rfl
 | m+1,j,f+1,s,hj,hf=>by
  have hjl:j<l.length:=by omega
  rw[dW,h1 _ j hjl,nZ hjl,sJ];have:(fun s'=>aC F f (pk (j+1) s'))=fU B D (l.drop (j+1)):=funext fun s'=>Qlk l F pk B D h1 h2 m (j+1) f s' aQ aQ;rw[this]
theorem Pm {α σ τ R:Type}(l:List α)(F:(τ→Option R)→τ→Option R)(pk:Nat→σ→τ)(B:α→(σ→Option R)→σ→Option R)(D:σ→Option R)
 (h1:∀ rec (j:Nat) (hj:j<l.length) s,F rec (pk j s)=B l[j] (fun s'=>rec (pk (j+1) s')) s) (h2:∀ rec s,F rec (pk l.length s)=D s) {f:Nat} (hf:l.length<f) (s:σ):aC F f (pk 0 s)=fU B D l s:=by
 have:=Qlk l F pk B D h1 h2 l.length 0 f s aQ hf;rwa[kA] at this
theorem Qdu {σ τ R:Type}(n:Nat)(F:(τ→Option R)→τ→Option R)(pk:Nat→σ→τ)(B:Nat→(σ→Option R)→σ→Option R)(D:σ→Option R)
 (h1:∀ rec (j:Nat) (hj:j<n) s,F rec (pk j s)=B j (fun s'=>rec (pk (j+1) s')) s) (h2:∀ rec s,F rec (pk n s)=D s) {f:Nat} (hf:n<f) (s:σ):aC F f (pk 0 s)=fU B D (List.range n) s:=
 Pm (List.range n) F pk B D (fun rec j hj s=>by rw[A1] at hj;rw[h1 rec j hj,List.getElem_range]) (fun rec s=>by rw[A1];exact h2 rec s) (by rw[A1];exact hf) s
theorem Xa5 {α β σ R:Type}(F:β→(σ→Option R)→σ→Option R)(d:σ→Option R)(g:α→β)(l:List α):fU F d (l.map g)=fU (fun a=>F (g a)) d l:=by unfold fU;rw[List.foldr_map]
theorem Qm8 {α σ R:Type}(g:σ→α→σ)(F:α→(σ→Option R)→σ→Option R)(d:σ→Option R)(I:Nat→σ→Prop):∀ (l:List α) (k:Nat) (s:σ),(∀ j (a:α) s nx,a∈l→I j s→F a nx s=nx (g s a))→(∀ j (a:α) s,a∈l→I j s→I (j+1) (g s a))→I k s→fU F d l s=d (l.foldl g s)
 | [],k,s,_,_,_=>rfl
 | a::l,k,s,h,hi,hs=>by
  rw[sJ,h k a s _ bW hs,wN];exact Qm8 g F d I l (k+1) (g s a) (fun j b s nx hb=>h j b s nx (by simp[hb])) (fun j b s hb=>hi j b s (by simp[hb])) (hi k a s bW hs)
theorem Mf {α β R:Type}(b n:Nat)(p:α→Bool)(f:α→β)(F:α→(List β→Option R)→List β→Option R)(d:List β→Option R):∀ (l:List α) (s:List β),(∀ a∈l,∀ nx s,F a nx s=bif p a then Option.bind (gI b s [f a]) nx else nx s)→(s.length+l.length)*b≤140737488355328→fU F d l s=d (s++(l.filter p).map f)
 | [],s,_,_=>by simp[Xa6]
 | a::l,s,h,hb=>by
  have hlen:(s.length+(a::l).length)*b=(s.length+1+l.length)*b:=by congr 1;simp;omega
  rw[sJ,h a bW,Yk]
  cases hp:p a with
  | true=>
   have h2:(s.length+1)*b≤(s.length+1+l.length)*b:=gA _ aQ;rw[dC,mW (by simp;omega),aJ,Mf b n p f F d l (s++[f a]) (fun x hx=>h x (by simp[hx])) (by simp;omega)];simp
  | false=>
   have h2:(s.length+l.length)*b≤(s.length+1+l.length)*b:=gA _ aQ;rw[cH,Mf b n p f F d l s (fun x hx=>h x (by simp[hx])) aQ];simp
theorem Qe7 {α σ R:Type}(p:α→Bool)(X:α→σ→Option R)(F:α→(σ→Option R)→σ→Option R)(d:σ→Option R):∀ (l:List α) (s:σ),(∀ a∈l,∀ nx s,F a nx s=bif p a then X a s else nx s)→fU F d l s=match l.find? p with|some a=>X a s|none=>d s
 | [],s,_=>rfl
 | a::l,s,h=>by
  rw[sJ,h a bW,Ly]
  cases hp:p a with
  | true=>rfl
  | false=>rw[cH];exact Qe7 p X F d l s (fun x hx=>h x (by simp[hx]))
theorem Qri {α:Type}(x:α)(l:List α):yl x (some l)=some (x::l):=rfl
theorem fS {n:Nat}(h:n<9223372036854775807):aT ((n:Int)+1)=((n+1:Nat):Int):=by rw[dR aQ aQ];omega
end Go.Sx

end
section
namespace Go.Sx
open Go
def jU (leaf:Nat)(v w:Nat):Bool:=cI leaf v&&(decide (w=0) || !cI leaf w)
def Vw (s:bX)(x:bG)(n m:Nat):Prop:=x.Node=(n:Int)∧x.Minus=(m:Int)∧1≤n∧n<128∧m<128
theorem Xgw (s:bX)(hv:gQ s=true)(x:bG)(h:uY s x=some true):∃ n m:Nat,Vw s x n m:=by
 obtain⟨d,hd,h6⟩:=Ve hv;unfold uY at h;rw[hd,Xz h6,aJ] at h
 cases h1:pO d x.Node with
 | false=>rw[h1] at h;simp at h
 | true=>
  obtain⟨n,hn,hn1,hn2⟩:=Ct h6 h1;rw[h1] at h;simp only[fF,cH] at h;by_cases hm:x.Minus=0
  · exact⟨n,0,hn,by simpa using hm,hn1,hn2,aQ⟩
  · by_cases hk:s.Kind=1#8
    · rw[aG hk,cJ hm] at h;simp at h
    · rw[aH hk,aH hm,Xz h6,aJ] at h
      cases h2:pO d x.Minus with
      | false=>rw[h2] at h;simp[R9] at h
      | true=>
       obtain⟨m,hm1,hm2,hm3⟩:=Ct h6 h2;exact⟨n,m,hn,hm1,hn1,hn2,hm3⟩
theorem Xb4 {k:BitVec 8}{d u:Nat}{st:Int}(h:d≤6)(hu:u<128):D6 ⟨k,(d:Int),st⟩ (u:Int)=some ((2^d+u:Nat):Int):=by
 have:=iG h;unfold D6;rw[Qgk h,aJ];generalize 2^d=m at *;rw[dR aQ aQ];congr 1
theorem Qd7 (s:bX):oU s ([]:List bG)=some (if gQ s then(eA s,0) else(cX.mk 0#8 0 0,30)):=by
 unfold oU;rw[Ni,aJ]
 cases hv:gQ s with
 | false=>rfl
 | true=>rfl
theorem Qy4 (s:bX)(hv:gQ s=true)(x:bG):∃ b,oU s [x]=some (if b then(eA s,0) else(cX.mk 0#8 0 0,31))∧uY s x=some b∧tL (eA s) x=some b∧(b=true→V0 s x∧∃ n m,Vw s x n m):=by
 obtain⟨b,e1,e2,e3⟩:=Xh1 s hv x;refine⟨b,?_,e2,e1,fun h=>⟨e3 h,Xgw s hv x (h ▸ e2)⟩⟩;unfold oU;rw[Ni,aJ,aG hv];show aC (zV [x] (eA s,true)) (18446744073709551614+1+1) 0=_;rw[dW];simp only[zV];rw[aG bW,show bJ [x] 0=some x from rfl,aJ,e1,aJ]
 cases b with
 | false=>rfl
 | true=>rfl
end Go.Sx

end
section
namespace Go.Sx
open Go
def kQ (k:BitVec 8)(d v w:Nat):Bool:=decide (k=2#8)||lR d v||decide (nL d (fC (w / 2) (Nat.log2 w-Nat.log2 v-1))=0)
def Px (k:BitVec 8)(d leaf:Nat):Nat→List (Nat × Nat)
 | 0=>[]
 | j+1=>((fC leaf (j+1)).filter fun p=>kQ k d (leaf / 2^(j+1)) (p ^^^ 1)).map (fun p=>(leaf / 2^(j+1),p ^^^ 1))++Px k d leaf j
def jY (k:BitVec 8)(d u:Nat):List (Nat × Nat):=(1,0)::if k=1#8 then(fC (2^d+u) d).map (fun p=>(p,0)) else Px k d (2^d+u) d
def Mn (k:BitVec 8)(d u:Nat):List (Int × Int):=(jY k d u).map fun x=>((x.1:Int),(x.2:Int))
def xG (k:BitVec 8)(d u:Nat):List bG:=(jY k d u).map fun x=>bG.mk (x.1:Int) (x.2:Int)
def N5 (k:BitVec 8)(d u:Nat):Bool:=
 decide (Wz ⟨k,(d:Int),(mX d:Int)⟩ (u:Int)=some (Mn k d u))&&decide (Qfu ⟨k,(d:Int),0,zG⟩ (u:Int)=some (xG k d u))&&decide ((jY k d u).length≤100) &&
  (jY k d u).all fun x=>decide (1≤x.1∧x.1<128∧x.2<128)&&(decide (x.2=0)||(cI x.2 x.1 && !decide (x.2=x.1)))
theorem Xar:∀ d:Fin 7,(List.range (2^d.1)).all (fun u=>N5 1#8 d.1 u)=true:=by decide +kernel
theorem Xas:∀ d:Fin 6,(List.range (2^d.1)).all (fun u=>N5 2#8 d.1 u)=true:=by decide +kernel
theorem Xat:(List.range 64).all (fun u=>N5 2#8 6 u)=true:=by decide +kernel
theorem Xau:∀ d:Fin 6,(List.range (2^d.1)).all (fun u=>N5 3#8 d.1 u)=true:=by decide +kernel
theorem Xav:(List.range 64).all (fun u=>N5 3#8 6 u)=true:=by decide +kernel
theorem Qmn {k:BitVec 8}(h1:1#8≤k)(h3:k≤3#8):k=1#8∨k=2#8∨k=3#8:=by
 have a:1≤k.toNat:=h1;have b:k.toNat≤3:=h3;rcases(show k.toNat=1∨k.toNat=2∨k.toNat=3 by omega) with h|h|h
 · exact .inl (jW h)
 · exact .inr (.inl (jW h))
 · exact .inr (.inr (jW h))
theorem Xaw {k:BitVec 8}{d u:Nat}(h1:1#8≤k)(h3:k≤3#8)(hd:d≤6)(hu:u<2^d):N5 k d u=true:=by
 have key:∀ {n:Nat} {f:Nat→Bool},(List.range n).all f=true→u<n→f u=true:=fun h hu=>oF.1 h u (tJ.2 hu);rcases Qmn h1 h3 with rfl|rfl|rfl
 · exact key (Xar ⟨d,aQ⟩) hu
 · rcases jG d 6 with h|h
   · exact key (Xas ⟨d,h⟩) hu
   · obtain rfl:d=6:=by omega
     exact key Xat hu
 · rcases jG d 6 with h|h
   · exact key (Xau ⟨d,h⟩) hu
   · obtain rfl:d=6:=by omega
     exact key Xav hu
theorem Qqq {s:bX}(h:gQ s=true):1#8≤s.Kind∧s.Kind≤3#8:=by
 unfold gQ at h;have:=iX h;exact⟨this.1,this.2.1⟩
theorem Xi9 {s:bX}{d:Nat}(h:gQ s=true)(hd:s.Depth=(d:Int)):s=⟨s.Kind,(d:Int),0,zG⟩:=by
 unfold gQ at h;have:=iX h;cases s;simp only at *;rw[hd,this.2.2.2.2.1,this.2.2.2.2.2]
theorem Qms {s:bX}{d u:Nat}(hv:gQ s=true)(hd:s.Depth=(d:Int))(h6:d≤6)(hu:u<2^d):
 Wz ⟨s.Kind,(d:Int),(mX d:Int)⟩ (u:Int)=some (Mn s.Kind d u)∧Qfu s (u:Int)=some (xG s.Kind d u)∧(jY s.Kind d u).length≤100∧
 ∀ x∈jY s.Kind d u,(1≤x.1∧x.1<128∧x.2<128)∧(x.2=0∨(cI x.2 x.1=true∧x.2≠x.1)):=by
 obtain⟨k1,k3⟩:=Qqq hv;have h:=Xaw k1 k3 h6 hu;unfold N5 at h;simp only[fM,fT,oF,nX,sO,I2] at h;refine⟨h.1.1.1,?_,h.1.2,h.2⟩;rw[Xi9 hv hd];exact h.1.1.2
end Go.Sx

end
section
namespace Go.Sx
open Go
def yX (k:W2)(n:Nat):W2:=if n%2=1 then cC k (aO 32#8) 0#64 else cC k (aO 31#8) 0#64
theorem Qcl:∀ (l:List Nat) (k:W2),fU Qm Wu (l.map Int.ofNat) k=some (l.foldl yX k)
 | [],k=>rfl
 | a::l,k=>by
  rw[qC,sJ];simp only[Qm,Wv];rw[show(Int.ofNat a)=(a:Int) from rfl,show(2:Int)=((2:Nat):Int) from rfl,Uz a 2 aQ,aJ,wN];unfold yX;by_cases h:a%2=1
  · rw[aG aQ,aG h];exact Qcl l _
  · rw[aH aQ,aH h];exact Qcl l _
theorem Qcm {w k:Nat}(key:W2)(hw:w<9223372036854775808)(hk:2^k≤w)(hk2:k≤64):zK key ((w / 2^k:Nat):Int) (w:Int)=some ((fC w k).foldl yX key):=by
 unfold zK P9;rw[aJ];simp only;rw[Qo6 hw hk hk2,aJ,Qcl]
theorem Xgr (k:W2)(n:Nat):Qg1 k (n:Int)=some (yX k n):=by
 unfold Qg1 yX;rw[show(2:Int)=((2:Nat):Int) from rfl,Uz n 2 aQ,aJ];by_cases h:n%2=1
 · rw[aH aQ,aG h]
 · rw[aG aQ,aH h]
theorem Qji (v:Int)(l:List Nat)(hl:l.length≤1000):∀ (r:List Nat) (j f:Nat) (k:W2),j+r.length=l.length→l.drop j=r→r.length<f→aC (Uy (v::l.map Int.ofNat)) f (((j+1:Nat):Int),k)=some (r.foldl yX k)
 | r,j,0,k,_,_,h=>by omega
 | [],j,f+1,k,hj,hr,_=>by
  rw[dW];simp only[Uy];rw[aH (by simp at hj ⊢;omega)];rfl
 | a::r,j,f+1,k,hj,hr,hf=>by
  rw[dW];simp only[Uy];have hjl:j<l.length:=by simp at hj;omega
  have ha:l[j]=a:=by
   have:=nZ hjl;rw[hr] at this;exact(Yh this).1.symm
  have hr':l.drop (j+1)=r:=by
   have:=nZ hjl;rw[hr] at this;exact(Yh this).2.symm
  have hg:bJ (v::l.map Int.ofNat) ((j+1:Nat):Int)=some (a:Int):=by
   rw[cF (by simp;omega)];simp only[Se,oR,ha];rfl
  rw[aG (by simp;omega),hg,aJ,Xgr,aJ,dR (by simp at hj;omega) (by simp at hj;omega),show((j+1:Nat):Int)+1=((j+1+1:Nat):Int) from by omega,wN];exact Qji v l hl r (j+1) f _ (by simp at hj ⊢;omega) hr' (by simp at hf;omega)
theorem Qjh {w k:Nat}(key:W2)(hw:w<9223372036854775808)(hk:2^k≤w)(hk2:k≤64):Qfz key ((w / 2^k:Nat):Int) (w:Int)=some ((fC w k).foldl yX key):=by
 unfold Qfz;rw[Qpa hw hk hk2,aJ];exact Qji _ (fC w k) (by rw[Zz];omega) (fC w k) 0 aI key aQ rfl (fQ (by rw[Zz];omega))
end Go.Sx

end
section
namespace Go.Sx
open Go
theorem Qle {α:Type}(l:List α):(l.filter fun _=>true)=l:=Qaj.2 bW
theorem Qdv {τ R:Type}(F:(τ→Option R)→τ→Option R)(I:Nat→τ→Prop)(n:Nat)(r:Option R)(hs:∀ j s,j<n→I j s→∃ s',I (j+1) s'∧∀ rec,F rec s=rec s')(he:∀ s,I n s→∀ rec,F rec s=r):
 ∀ (m j f:Nat) (s:τ),j+m=n→m<f→I j s→aC F f s=r
 | m,j,0,s,_,h,_=>by omega
 | 0,j,f+1,s,hj,_,hi=>by
  have:j=n:=by omega
  subst this;rw[dW,he s hi]
 | m+1,j,f+1,s,hj,hf,hi=>by
  obtain⟨s',h1,h2⟩:=hs j s aQ hi;rw[dW,h2];exact Qdv F I n r hs he m (j+1) f s' aQ aQ h1
end Go.Sx

end
