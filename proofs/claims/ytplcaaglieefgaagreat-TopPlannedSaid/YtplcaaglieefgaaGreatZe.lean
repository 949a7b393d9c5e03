/- Several texts in one: CipA CipB CipC Ref2 BitL Srt SrtSub MirM Wg MirN MirU MirT MirV SeM TaM KdM KeM NaM KfM NbM KgM NcM KhM RcM KjM TlM JoM Pl Tr Ts Fx Mb Lb Tk Fy SecN Nm. -/
import Derived.Test.YtplcaaglieefgaaGreatRows
import Derived.Test.YtplcaaglieefgaaGreatZc
import Derived.KernelRfl
import Derived.Test.YtplcaaglieefgaaGreatZb
import Derived.Shelf.SlSortCmp.NoneTotal
import Derived.Test.YtplcaaglieefgaaGreatZd
import Derived.Shelf.SlGeneric
import Derived.Test.YtplcaaglieefgaaGreatProg
import Derived.LoopNIn
set_option linter.unusedVariables false
set_option linter.unusedSimpArgs false
set_option maxRecDepth 100000
section
namespace Go.Proofs.YtplcaaglieefgaaGreat
open Go Go.RowKit Go.Sx
theorem Qkv:CV Tryz.prog 3 177 .u64:=fun _ _ _=>by kernel_rfl
theorem qG:ZV Tryz.prog 326 (.agg [.int .u64 0,.int .u64 0].toArray):=fun _=>by kernel_rfl
theorem sS:FA Tryz.prog 326 0 0:=fun _ _ _=>by kernel_rfl
theorem cQ:eI Tryz.prog 22:=fun _=>⟨by kernel_rfl,by kernel_rfl⟩
theorem rZ:FA Tryz.prog 326 1 1:=fun _ _ _=>by kernel_rfl
theorem Vo:En Tryz.prog 307:=fun _ _=>by kernel_rfl
theorem Li:BS Tryz.prog 326 (fun i=>[(0,1),(1,1)][i]?) [.int .u64 0,.int .u64 0]:=kN Tryz.underlying326 qG ⟨rfl,(cQ).siz,rfl,(cQ).siz,trivial⟩
theorem jW:fY Tryz.prog 326 2:=fun _=>⟨by kernel_rfl,by kernel_rfl⟩
theorem uT:CV Tryz.prog 5 22 .u64:=fun _ _ _=>by kernel_rfl
theorem bO:eI Tryz.prog 5:=fun _=>⟨by kernel_rfl,by kernel_rfl⟩
theorem oY:CV Tryz.prog 22 5 .u8:=fun _ _ _=>by kernel_rfl
theorem fU:ZV Tryz.prog 36 (.agg [.int .u8 0,.int .u8 0,.int .u8 0,.int .u8 0,.int .u8 0,.int .u8 0,.int .u8 0,.int .u8 0,.int .u8 0,.int .u8 0,.int .u8 0,.int .u8 0,.int .u8 0,.int .u8 0,.int .u8 0,.int .u8 0].toArray):=fun _=>by kernel_rfl
theorem bJ:fY Tryz.prog 36 16:=fun _=>⟨by kernel_rfl,by kernel_rfl⟩
abbrev pv (p:W2):Value:=.agg [wv p.1,wv p.2].toArray
set_option maxHeartbeats 1000000 in
theorem Tf (x:BitVec 64)(k:Int)(s:Nat)(hs:s<64)(hk:bits .and .u64 (IntKind.u64.wrap k) 63=(s:Int))(w:World):
 Calls Tryz.prog 307 [wv x,.int .i64 k].toArray w fun e w'=>∃ v,e=.returned v∧(v=wv (nW x s)∧Gr w w'):=by
 refine bP 17 Tryz.func307 rfl rfl rfl<|qs 1 rfl<|qv rfl (fJ rfl)<|qd 4 rfl<|qv rfl (aB rfl)<|qv rfl (vI Qkv rfl)<|qv rfl (eR (zB (by simp) rfl rfl) (show _=Value.int .u64 (s:Int) from by rw[hk]))<|qv rfl (fJ rfl)<|qd 9 rfl<|qv rfl (aB rfl)<|qv rfl (aB rfl)<|qv rfl (Jg rfl rfl (by omega))<|qv rfl (aB rfl)<|qv rfl (aB rfl)<|qv rfl (eR (gK rfl rfl) (show _=Value.int .u64 ((64-s:Nat):Int) from by rw[IntKind.wrap_u64];congr 1;omega))<|qv rfl (Gx rfl rfl (by omega))<|qv rfl (C4 rfl rfl)<|qv rfl (fJ rfl)<|aQ<|aG ?_;refine⟨_,_,rfl,qW rfl rfl,?_⟩;exact⟨by simp[nW],(Gr.refl w)⟩
set_option maxHeartbeats 1000000 in
theorem Qg2 (p:W2)(k:BitVec 64)(w:World):
 Calls Tryz.prog 228 [pv p,wv k].toArray w fun e w'=>∃ v,e=.returned v∧(v=pv (lN p k)∧Gr w w'):=by
 refine bP 21 Tryz.func228 rfl rfl rfl<|qs 2 rfl<|qe rfl (bT rfl (by rfl)) ?_;rintro _ w1 ⟨b1,rfl,hbw1,Bw1,Gw1⟩;have z1:=Gw1.size;have lt2:=Bw1.lt;refine qe rfl (bD qG (by rfl)) ?_;rintro _ w2 ⟨b2,rfl,hbw2,Bw2,Gw2⟩;have z3:=Gw2.size;have lt4:=Bw2.lt;refine aQ<|aY<|Zq [] [(0,3),(1,3),(3,3),(4,3),(6,3),(2,0),(5,3),(7,3),(8,3)] (by kernel_rfl) (by kernel_rfl) rfl (by kernel_rfl) ?_;intro w3 Gw3 zw3;refine eY rfl rfl rfl (Kp.refl [] w3) (fun w hS=>aJ sS rfl) ?_;have B5:=(Bx.gr (Bx.gr Bw1 Gw2) Gw3);refine eY rfl rfl rfl (Kp.refl [] w3) (fun w hS=>aV cQ rfl (Bx.kp B5 hS (by simp<;>first|omega|(split<;>omega))) (by rfl))<|eY rfl rfl rfl (Kp.refl [] w3) (fun w hS=>aJ rZ rfl)<|eY rfl rfl rfl (Kp.refl [] w3) (fun w hS=>aV cQ rfl (Bx.kp B5 hS (by simp<;>first|omega|(split<;>omega))) (by rfl))<|eY rfl rfl rfl (Kp.refl [] w3) (fun w hS=>aB rfl)<|Va rfl rfl rfl (kX Vo rfl (Tf _ (-8) 56 (by decide) (by decide) _)) ?_
 rintro _ w4 ⟨rfl,Gw4⟩;have z6:=Gw4.size;refine⟨Gw4,?_⟩;have S7:=(Kp.gr (Kp.refl [] w3) Gw4);refine eY rfl rfl rfl S7 (fun w hS=>C3 rfl rfl)<|eY rfl rfl rfl S7 (fun w hS=>Gz rfl rfl)<|eY rfl rfl rfl S7 (fun w hS=>fJ rfl)<|qd 8 rfl<|qv rfl (aB rfl)<|qv rfl (aJ rZ rfl) ?_;have B8:=(Bx.gr B5 Gw4);refine qv rfl (aV cQ rfl B8 (by rfl))<|qe rfl (kX Vo rfl (Tf _ (3) 3 (by decide) (by decide) _)) ?_;rintro _ w5 ⟨rfl,Gw5⟩;have z9:=Gw5.size;refine qv rfl (aB rfl)<|qv rfl (Gz rfl rfl)<|qv rfl (cR Li rfl rfl) ?_;have B10:=(Bx.gr (Bx.gr (Bx.gr Bw2 Gw3) Gw4) Gw5);refine qe rfl (nX (jW).siz rfl rfl (by rfl) (by rfl) (by rfl) B10 (by rfl)) ?_;rintro _ w6 ⟨Bw6,Mw6⟩;have z11:=Mw6.size;refine aQ<|aG ?_;have X12:=(Gr.md (Gr.trans (Gr.trans (Gr.trans (Gr.trans (Gr.trans (Gr.refl w) Gw1) Gw2) Gw3) Gw4) Gw5) Mw6 (by omega));refine⟨_,_,rfl,vF rfl jW rfl Bw6 (by rfl),?_⟩;exact⟨rfl,X12⟩
set_option maxHeartbeats 1000000 in
theorem Qis (p:W2)(k:BitVec 64)(w:World):
 Calls Tryz.prog 295 [pv p,wv k].toArray w fun e w'=>∃ v,e=.returned v∧(v=pv (nU p k)∧Gr w w'):=by
 refine bP 21 Tryz.func295 rfl rfl rfl<|qs 2 rfl<|qe rfl (bT rfl (by rfl)) ?_;rintro _ w1 ⟨b1,rfl,hbw1,Bw1,Gw1⟩;have z1:=Gw1.size;have lt2:=Bw1.lt;refine qe rfl (bD qG (by rfl)) ?_;rintro _ w2 ⟨b2,rfl,hbw2,Bw2,Gw2⟩;have z3:=Gw2.size;have lt4:=Bw2.lt;refine qd 7 rfl<|qv rfl (aJ sS rfl) ?_;have B5:=(Bx.gr Bw1 Gw2);refine qv rfl (aV cQ rfl B5 (by rfl))<|qv rfl (aJ rZ rfl)<|qv rfl (aV cQ rfl B5 (by rfl))<|qv rfl (Gz rfl rfl)<|qe rfl (kX Vo rfl (Tf _ (-3) 61 (by decide) (by decide) _)) ?_;rintro _ w3 ⟨rfl,Gw3⟩;have z6:=Gw3.size;refine qv rfl (fJ rfl)<|qd 10 rfl<|qv rfl (aJ sS rfl) ?_;have B7:=(Bx.gr B5 Gw3);refine qv rfl (aV cQ rfl B7 (by rfl))<|qv rfl (aB rfl)<|qv rfl (Gz rfl rfl)<|qv rfl (aB rfl)<|qv rfl (Gy rfl rfl)<|qe rfl (kX Vo rfl (Tf _ (8) 8 (by decide) (by decide) _)) ?_;rintro _ w4 ⟨rfl,Gw4⟩;have z8:=Gw4.size;refine qv rfl (aB rfl)<|qv rfl (cR Li rfl rfl) ?_;have B9:=(Bx.gr (Bx.gr Bw2 Gw3) Gw4);refine qe rfl (nX (jW).siz rfl rfl (by rfl) (by rfl) (by rfl) B9 (by rfl)) ?_;rintro _ w5 ⟨Bw5,Mw5⟩;have z10:=Mw5.size;refine aQ<|aG ?_;have X11:=(Gr.md (Gr.trans (Gr.trans (Gr.trans (Gr.trans (Gr.refl w) Gw1) Gw2) Gw3) Gw4) Mw5 (by omega));refine⟨_,_,rfl,vF rfl jW rfl Bw5 (by rfl),?_⟩;exact⟨rfl,X11⟩
set_option maxHeartbeats 1000000 in
theorem Au (p:W2)(w:World):
 Calls Tryz.prog 226 [kv p].toArray w fun e w'=>∃ v,e=.returned v∧(v=pv p∧Gr w w'):=by
 refine bP 29 Tryz.func226 rfl rfl rfl<|qs 2 rfl<|qe rfl (bT rfl (by rfl)) ?_;rintro _ w1 ⟨b1,rfl,hbw1,Bw1,Gw1⟩;have z1:=Gw1.size;have lt2:=Bw1.lt;refine qe rfl (bD qG (by rfl)) ?_;rintro _ w2 ⟨b2,rfl,hbw2,Bw2,Gw2⟩;have z3:=Gw2.size;have lt4:=Bw2.lt;refine qd 1 rfl<|qe rfl (bD qG (by rfl)) ?_;rintro _ w3 ⟨b3,rfl,hbw3,Bw3,Gw3⟩;have z5:=Gw3.size;have lt6:=Bw3.lt;refine aQ<|aY<|qs 1 rfl<|qv rfl (aB rfl)<|aQ<|bH ?_;have X7:=(Gr.trans (Gr.trans (Gr.trans (Gr.refl w) Gw1) Gw2) Gw3);refine dH (α:=Nat) [4,5,6,7,8,9,10,11,12,13,14,15,16,17,18,19,20,21,22,23,24,25,26,27] (fun k=>[(5,.int .i64 (k:Int))]) (fun k wr=>(k≤8)∧Bx wr b3 326 ([wv (p.1 >>> (64-8*k)),wv (p.2 >>> (64-8*k))])∧Kp [b3] w3 wr) (fun k=>8-k) (0) ?_ ?_ ?_
 · exact aH
 · exact⟨by omega,(by rw[Nat.mul_zero,Nat.sub_zero,Eo,Eo];exact Bw3),Kp.refl _ _⟩
 rintro k w4 ⟨hk,Bw4_b3,Kw4⟩;have z8:=Kw4.size;refine qs 1 rfl<|qv rfl (cE rfl rfl)<|aQ<|aY<|lX rfl (fun h1=>?_) (fun h1=>?_)
 · -- h1 True
   replace h1:=of_decide_eq_true h1;refine qu<|aY<|bH<|qs 2 rfl<|qv rfl (aB rfl)<|qv rfl (fJ rfl)<|aQ<|Zq [b3] [(0,3),(1,1),(2,3),(3,3),(4,3),(5,3),(6,3),(7,3),(8,3),(9,1),(10,3),(11,3),(12,3),(13,3),(14,3),(15,3),(16,3),(17,3),(18,2),(19,3),(20,2)] (by kernel_rfl) (by kernel_rfl) rfl (by kernel_rfl) ?_;intro w5 Gw5 zw5;refine eY rfl rfl rfl (Kp.refl [b3] w5) (fun w hS=>aJ sS rfl) ?_;have B9:=(Bx.gr Bw4_b3 Gw5);refine Sj rfl rfl rfl (Gr.refl w5) (fun w hS=>aV cQ rfl (Bx.gr B9 hS) (by rfl))<|eY rfl rfl rfl (Kp.refl [b3] w5) (fun w hS=>Jg rfl rfl (by omega))<|eY rfl rfl rfl (Kp.refl [b3] w5) (fun w hS=>aB rfl)<|eY rfl rfl rfl (Kp.refl [b3] w5) (fun w hS=>tB Tryz.underlying36 (bO).siz rfl rfl (by omega) (by omega)) ?_;have B10:=(Bx.gr (Bx.kp (Bx.gr (Bx.gr Bw1 Gw2) Gw3) Kw4 (by simp<;>first|omega|(split<;>omega))) Gw5)
   refine eY rfl rfl rfl (Kp.refl [b3] w5) (fun w hS=>aV bO rfl (Bx.kp B10 hS (by simp<;>first|omega|(split<;>omega))) (by exact Qpp p k (by omega)))<|eY rfl rfl rfl (Kp.refl [b3] w5) (fun w hS=>Gk uT rfl (Ow _ _) (by have:=Ov p.1 k;omega))<|eY rfl rfl rfl (Kp.refl [b3] w5) (fun w hS=>C4 rfl rfl)<|eY rfl rfl rfl (Kp.refl [b3] w5) (fun w hS=>aJ rZ rfl)<|Sj rfl rfl rfl (Gr.refl w5) (fun w hS=>aV cQ rfl (Bx.gr B9 hS) (by rfl))<|eY rfl rfl rfl (Kp.refl [b3] w5) (fun w hS=>Jg rfl rfl (by omega))<|eY rfl rfl rfl (Kp.refl [b3] w5) (fun w hS=>aB rfl)<|eY rfl rfl rfl (Kp.refl [b3] w5) (fun w hS=>kY rfl rfl (by omega) (by omega))<|eY rfl rfl rfl (Kp.refl [b3] w5) (fun w hS=>tB Tryz.underlying36 (bO).siz rfl rfl (by omega) (by omega))<|eY rfl rfl rfl (Kp.refl [b3] w5) (fun w hS=>aV bO rfl (Bx.kp B10 hS (by simp<;>first|omega|(split<;>omega))) (by exact Qpo p k (by omega)))<|eY rfl rfl rfl (Kp.refl [b3] w5) (fun w hS=>Gk uT rfl (Ow _ _) (by have:=Ov p.2 k;omega))<|eY rfl rfl rfl (Kp.refl [b3] w5) (fun w hS=>C4 rfl rfl)<|eY rfl rfl rfl (Kp.refl [b3] w5) (fun w hS=>aJ sS rfl)<|W8 (b:=b3) rfl rfl rfl rfl (P0 (cQ).siz rfl rfl rfl B9 (by simp)) (by first|exact Or.inl (by simp)|exact Or.inr (by omega)) ?_
   rintro _ w6 ⟨Bw6,Mw6⟩;have z11:=Mw6.size;refine⟨Mw6,?_⟩;have S12:=(Kp.md (Kp.refl [b3] w5) Mw6 (by first|exact Or.inl (by simp)|exact Or.inr (by omega)))
   refine eY rfl rfl rfl S12 (fun w hS=>aJ rZ rfl)<|W8 (b:=b3) rfl rfl rfl rfl (P0 (cQ).siz rfl rfl rfl Bw6 (by simp)) (by first|exact Or.inl (by simp)|exact Or.inr (by omega)) ?_
   rintro _ w7 ⟨Bw7,Mw7⟩;have z13:=Mw7.size;refine⟨Mw7,?_⟩;refine aP<|bW<|bY<|qg 2 rfl<|qv rfl (kY rfl rfl (by omega) (by omega))<|qv rfl (aB rfl)<|aP ?_;have K_14:=(Kp.md (Kp.md (Kp.gr Kw4 Gw5) Mw6 (by simp<;>first|omega|(split<;>omega))) Mw7 (by simp<;>first|omega|(split<;>omega)))
   refine⟨rfl,k+1,?_,⟨?_,?_,K_14⟩,?_⟩
   · exact aH
   · omega
   · rw[←Tj _ k (by omega),←Tj _ k (by omega)];exact Bw7
   first|omega|(dsimp only;omega)
 replace h1:=of_decide_eq_false h1;refine cF<|bS<|bS<|cS<|bY<|qs 2 rfl<|qv rfl (aO jW rfl Bw4_b3 (by rfl)) ?_;have B15:=(Bx.kp (Bx.gr Bw2 Gw3) Kw4 (by simp<;>first|omega|(split<;>omega)))
 refine qe rfl (nX (jW).siz rfl rfl (by rfl) (by rfl) (by rfl) B15 (by rfl)) ?_;rintro _ w8 ⟨Bw8,Mw8⟩;have z16:=Mw8.size;refine aQ<|aG ?_;obtain rfl:k=8:=by omega
 have X17:=(Gr.md (Gr.kp X7 Kw4 (by simp<;>first|omega|(split<;>omega))) Mw8 (by omega))
 refine⟨_,_,rfl,vF rfl jW rfl Bw8 (by rfl),?_⟩;exact⟨rfl,X17⟩
set_option maxHeartbeats 1000000 in
theorem Lf (p:W2)(w:World):
 Calls Tryz.prog 229 [pv p].toArray w fun e w'=>∃ v,e=.returned v∧(v=kv p∧Gr w w'):=by
 refine bP 29 Tryz.func229 rfl rfl rfl<|qs 2 rfl<|qe rfl (bT rfl (by rfl)) ?_;rintro _ w1 ⟨b1,rfl,hbw1,Bw1,Gw1⟩;have z1:=Gw1.size;have lt2:=Bw1.lt;refine qe rfl (bD fU (by rfl)) ?_;rintro _ w2 ⟨b2,rfl,hbw2,Bw2,Gw2⟩;have z3:=Gw2.size;have lt4:=Bw2.lt;refine qd 1 rfl<|qe rfl (bD fU (by rfl)) ?_;rintro _ w3 ⟨b3,rfl,hbw3,Bw3,Gw3⟩;have z5:=Gw3.size;have lt6:=Bw3.lt;refine aQ<|aY<|qs 1 rfl<|qv rfl (aB rfl)<|aQ<|bH ?_;have X7:=(Gr.trans (Gr.trans (Gr.trans (Gr.refl w) Gw1) Gw2) Gw3);refine dH (α:=Nat) [4,5,6,7,8,9,10,11,12,13,14,15,16,17,18,19,20,21,22,23,24,25,26,27] (fun k=>[(5,.int .i64 (k:Int))]) (fun k wr=>(k≤8)∧Bx wr b3 36 (sA p k)∧Kp [b3] w3 wr) (fun k=>8-k) (0) ?_ ?_ ?_
 · exact aH
 · exact⟨by omega,(by rw[Qpt];exact Bw3),Kp.refl _ _⟩
 rintro k w4 ⟨hk,Bw4_b3,Kw4⟩;have z8:=Kw4.size;refine qs 1 rfl<|qv rfl (cE rfl rfl)<|aQ<|aY<|lX rfl (fun h1=>?_) (fun h1=>?_)
 · -- h1 True
   replace h1:=of_decide_eq_true h1;refine qu<|aY<|bH<|qs 2 rfl<|qv rfl (aB rfl)<|qv rfl (fJ rfl)<|aQ<|Zq [b3] [(0,3),(1,3),(2,3),(3,3),(4,3),(5,3),(6,3),(7,3),(8,3),(9,3),(10,3),(11,3),(12,3),(13,3),(14,3),(15,3),(16,3),(17,3),(18,2),(19,3),(20,2)] (by kernel_rfl) (by kernel_rfl) rfl (by kernel_rfl) ?_;intro w5 Gw5 zw5;refine eY rfl rfl rfl (Kp.refl [b3] w5) (fun w hS=>aB rfl)<|eY rfl rfl rfl (Kp.refl [b3] w5) (fun w hS=>aB rfl)<|eY rfl rfl rfl (Kp.refl [b3] w5) (fun w hS=>kY rfl rfl (by omega) (by omega))<|eY rfl rfl rfl (Kp.refl [b3] w5) (fun w hS=>aJ sS rfl) ?_;have B9:=(Bx.gr (Bx.kp (Bx.gr (Bx.gr Bw1 Gw2) Gw3) Kw4 (by simp<;>first|omega|(split<;>omega))) Gw5)
   refine eY rfl rfl rfl (Kp.refl [b3] w5) (fun w hS=>aV cQ rfl (Bx.kp B9 hS (by simp<;>first|omega|(split<;>omega))) (by rfl))<|eY rfl rfl rfl (Kp.refl [b3] w5) (fun w hS=>aB rfl)<|eY rfl rfl rfl (Kp.refl [b3] w5) (fun w hS=>Qhw rfl rfl (by omega) (by omega))<|eY rfl rfl rfl (Kp.refl [b3] w5) (fun w hS=>Aq rfl rfl (by omega) (by omega))<|eY rfl rfl rfl (Kp.refl [b3] w5) (fun w hS=>Gx rfl rfl (by omega))<|eY rfl rfl rfl (Kp.refl [b3] w5) (fun w hS=>Ah oY rfl)<|eY rfl rfl rfl (Kp.refl [b3] w5) (fun w hS=>aJ rZ rfl)<|eY rfl rfl rfl (Kp.refl [b3] w5) (fun w hS=>aV cQ rfl (Bx.kp B9 hS (by simp<;>first|omega|(split<;>omega))) (by rfl))<|eY rfl rfl rfl (Kp.refl [b3] w5) (fun w hS=>aB rfl)<|eY rfl rfl rfl (Kp.refl [b3] w5) (fun w hS=>Qhw rfl rfl (by omega) (by omega))<|eY rfl rfl rfl (Kp.refl [b3] w5) (fun w hS=>Aq rfl rfl (by omega) (by omega))<|eY rfl rfl rfl (Kp.refl [b3] w5) (fun w hS=>Gx rfl rfl (by omega))<|eY rfl rfl rfl (Kp.refl [b3] w5) (fun w hS=>Ah oY rfl)<|eY rfl rfl rfl (Kp.refl [b3] w5) (fun w hS=>tB Tryz.underlying36 (bO).siz rfl rfl (by omega) (by omega)) ?_
   have B10:=(Bx.gr Bw4_b3 Gw5);refine W8 (b:=b3) rfl rfl rfl rfl (P0 (bO).siz rfl rfl rfl B10 (by rw[Qdu];omega)) (by first|exact Or.inl (by simp)|exact Or.inr (by omega)) ?_
   rintro _ w6 ⟨Bw6,Mw6⟩;have z11:=Mw6.size;refine⟨Mw6,?_⟩;have S12:=(Kp.md (Kp.refl [b3] w5) Mw6 (by first|exact Or.inl (by simp)|exact Or.inr (by omega)))
   refine eY rfl rfl rfl S12 (fun w hS=>tB Tryz.underlying36 (bO).siz rfl rfl (by omega) (by omega))<|W8 (b:=b3) rfl rfl rfl rfl (P0 (bO).siz rfl rfl rfl Bw6 (by rw[List.length_set,Qdu];omega)) (by first|exact Or.inl (by simp)|exact Or.inr (by omega)) ?_
   rintro _ w7 ⟨Bw7,Mw7⟩;have z13:=Mw7.size;refine⟨Mw7,?_⟩;refine aP<|bW<|bY<|qg 2 rfl<|qv rfl (kY rfl rfl (by omega) (by omega))<|qv rfl (aB rfl)<|aP ?_;have K_14:=(Kp.md (Kp.md (Kp.gr Kw4 Gw5) Mw6 (by simp<;>first|omega|(split<;>omega))) Mw7 (by simp<;>first|omega|(split<;>omega)))
   refine⟨rfl,k+1,?_,⟨?_,?_,K_14⟩,?_⟩
   · exact aH
   · omega
   · rw[←Qpu p k (by omega)];exact Bw7
   first|omega|(dsimp only;omega)
 replace h1:=of_decide_eq_false h1;refine cF<|bS<|bS<|cS<|bY<|aY ?_;obtain rfl:k=8:=by omega
 refine qg 2 rfl<|qv rfl (aO bJ rfl Bw4_b3 (by rfl)) ?_;have B15:=(Bx.kp (Bx.gr Bw2 Gw3) Kw4 (by simp<;>first|omega|(split<;>omega)))
 refine qe rfl (nX (bJ).siz rfl rfl (by rfl) (by rfl) (by rfl) B15 (by rfl)) ?_;rintro _ w8 ⟨Bw8,Mw8⟩;have z16:=Mw8.size;refine aQ<|aG ?_;have X17:=(Gr.md (Gr.kp X7 Kw4 (by simp<;>first|omega|(split<;>omega))) Mw8 (by omega))
 refine⟨_,_,rfl,vF rfl bJ rfl Bw8 (by rfl),?_⟩;exact⟨rfl,X17⟩
end Go.Proofs.YtplcaaglieefgaaGreat

end
section
namespace Go.Proofs.YtplcaaglieefgaaGreat
open Go Go.RowKit Go.Sx
theorem I6:En Tryz.prog 226:=fun _ _=>by kernel_rfl
theorem jM:CV Tryz.prog 3 22 .u64:=fun _ _ _=>by kernel_rfl
theorem Qb9:En Tryz.prog 228:=fun _ _=>by kernel_rfl
theorem Qb8:En Tryz.prog 227:=fun _ _=>by kernel_rfl
theorem Qbh:En Tryz.prog 306:=fun _ _=>by kernel_rfl
theorem Fe:En Tryz.prog 229:=fun _ _=>by kernel_rfl
def rT (k:W2):List (List Value):=(List.range 32).map fun(i:Nat)=>[.int .i64 (i:Int),wv (ks k i).2]
theorem Qf (k:W2):(rT k).length=32:=by simp[rT]
theorem Qdn (k:W2)(i:Nat)(h:i<32):(rT k)[i]? = some [.int .i64 (i:Int),wv (ks k i).2]:=by simp[rT,h]
set_option maxHeartbeats 1000000 in
theorem Qdr (k:W2)(b:Nat)(w0:World)(hb:Bx w0 b 36 (kb k)):
 IT Tryz.prog 306 [.pointer (some ⟨b,0,none⟩)] (rT k) [b] w0:=by
 intro l J Jx w fp hG hJ hJx hcap h0 hY;have Bc0:=Bx.gr hb hG;have lt1:=Bc0.lt;refine bP 21 Tryz.func306 rfl rfl rfl<|qs 4 rfl<|qv rfl (aO bJ rfl Bc0 (by rfl))<|qe rfl (kX I6 rfl (Au _ _)) ?_;rintro _ w1 ⟨rfl,Gw1⟩;have z2:=Gw1.size;refine qe rfl (bD qG (by rfl)) ?_;rintro _ w2 ⟨b2,rfl,hbw2,Bw2,Gw2⟩;have z3:=Gw2.size;have lt4:=Bw2.lt;refine qe rfl (nX (jW).siz rfl rfl (by rfl) (by rfl) (by rfl) Bw2 (by rfl)) ?_;rintro _ w3 ⟨Bw3,Mw3⟩;have z5:=Mw3.size;refine qd 1 rfl<|qv rfl (aB rfl)<|aQ<|bH ?_;have hz0:b2∉fp:=fun h=>by have:=hJ.lt h0 b2 h;omega
 have hk0:Kp fp w w3:=((Gr.toKp Gw1).gr Gw2).md Mw3 (.inr (by omega));have hj0:J 0 fp w3:=hJ.md (hJ.gr (hJ.gr h0 Gw1) Gw2) Mw3 hz0;have B6:=(Bx.md (Bx.gr (Bx.gr Bc0 Gw1) Gw2) Mw3 (by omega));refine dH (α:=Nat) [4,7,8,9,10,11,12,13,14,15,16,17,18,19,20] (fun i=>[(7,.int .i64 (i:Int))]) (fun i wr=>(i≤32∧∃ f,J i f wr∧Kp fp w wr∧(∀ c∈f,c∈fp∨w.heap.size≤c)∧b∉f∧b2∉f)∧Bx wr b 36 (kb k)∧Bx wr b2 326 ([wv (ks k i).1,wv (ks k i).2])∧True) (fun i=>32-i) (0) ?_ ?_ ?_
 · exact aH
 · exact⟨⟨by omega,fp,hj0,hk0,fun c hc=>.inl hc,hcap b (by simp),hz0⟩,B6,Bw3,trivial⟩
 rintro i w4 ⟨⟨hi,f,hj,hk,hf,hbf,hpf⟩,Bw4_b,Bw4_b2,Kw4⟩;have lt7:=Bw4_b.lt;have lt8:=Bw4_b2.lt;refine qs 1 rfl<|qv rfl (cE rfl rfl)<|aQ<|aY<|lX rfl (fun h1=>?_) (fun h1=>?_)
 · -- h1 True
   replace h1:=of_decide_eq_true h1;refine qu<|aY<|bH<|qs 2 rfl<|qv rfl (aB rfl)<|qv rfl (fJ rfl)<|aQ<|aY<|qs 6 rfl<|qv rfl (aB rfl)<|qv rfl (aB rfl)<|qv rfl (aJ rZ rfl)<|qv rfl (aV cQ rfl Bw4_b2 (by rfl))<|qe rfl (uN rfl rfl (hY i _ f _ (Qdn k i (by omega)) hj hk hf)) ?_;rintro _ w5 ⟨y1,rfl,Kw5,fw5,Fw5,Jw5⟩;have z9:=Kw5.size;have hk5:Kp fp w w5:=hk.trans Kw5 hf;have hf5:=pJ hf Fw5 hk.size;have hn2:b2∉fw5:=fZ Fw5 hpf lt8;refine qv rfl (dB rfl)<|aQ<|lX rfl (fun h2=>?_) (fun h2=>?_)
   · -- h2 True
     replace h2:=Qra h2;subst h2;refine aG<|bU<|cM<|bU<|bU<|cM<|⟨_,_,rfl,kV rfl,?_⟩;exact⟨hk5,.inr ⟨i+1,fw5,hf5,by rw[Qf];omega,Jw5⟩⟩
   replace h2:=Qr9 h2;subst h2;refine qu<|qg 5 rfl ?_;have B10:=(Bx.kp Bw4_b2 Kw5 hpf);refine qv rfl (aO jW rfl B10 (by rfl))<|qv rfl (aB rfl)<|qv rfl (Gk jM rfl (by omega) (by omega))<|qe rfl (kX Qb9 rfl (Qg2 _ _ _)) ?_;rintro _ w6 ⟨rfl,Gw6⟩;have z11:=Gw6.size;have B12:=(Bx.gr B10 Gw6);refine qe rfl (nX (jW).siz rfl rfl (by rfl) (by rfl) (by rfl) B12 (by rfl)) ?_;rintro _ w7 ⟨Bw7,Mw7⟩;have z13:=Mw7.size;refine aP<|bW<|bY<|qg 2 rfl<|qv rfl (kY rfl rfl (by omega) (by omega))<|qv rfl (aB rfl)<|aP ?_;have B15:=(Bx.md (Bx.gr (Bx.kp Bw4_b Kw5 hbf) Gw6) Mw7 (by omega));refine⟨rfl,i+1,?_,⟨?_,?_,?_,trivial⟩,?_⟩
   · exact aH
   · exact⟨by omega,fw5,hJ.md (hJ.gr Jw5 Gw6) Mw7 hn2,(hk5.gr Gw6).md Mw7 (.inr (by omega)),hf5,fZ Fw5 hbf lt7,hn2⟩
   · exact B15
   · exact Bw7
   first|omega|(dsimp only;omega)
 replace h1:=of_decide_eq_false h1;refine cF<|bS<|bS<|cS<|⟨_,_,rfl,kV rfl,?_⟩;obtain rfl:i=32:=by omega
 exact⟨hk,.inl ⟨f,hf,by rw[Qf];exact hj⟩⟩
set_option maxHeartbeats 1000000 in
theorem Qdq (k:W2)(w:World):
 Calls Tryz.prog 227 [kv k].toArray w fun e w'=>∃ v,e=.returned v∧(∃ b,v=.func (.func 306) #[] [.pointer (some ⟨b,0,none⟩)].toArray∧w.heap.size≤b∧Bx w' b 36 (kb k)∧Gr w w'):=by
 refine bP 4 Tryz.func227 rfl rfl rfl<|qs 2 rfl<|qe rfl (bT rfl (by rfl)) ?_;rintro _ w1 ⟨b1,rfl,hbw1,Bw1,Gw1⟩;have z1:=Gw1.size;have lt2:=Bw1.lt;refine qv rfl (fJ rfl)<|qd 2 rfl<|qv rfl (iJ rfl rfl)<|qv rfl (fJ rfl)<|aQ<|aG ?_;have X3:=(Gr.trans (Gr.refl w) Gw1);refine⟨_,_,rfl,qW rfl rfl,?_⟩;exact⟨b1,rfl,hbw1,Bw1,X3⟩
def I7 (k b:W2)(n:Nat):W2:=(List.range n).foldl (fun p i=>lN p (ks k i).2) b
theorem Qni (k b:W2)(n:Nat):I7 k b (n+1)=lN (I7 k b n) (ks k n).2:=by simp[I7,List.range_succ]
theorem Qdo {k:W2}{i:Nat}{x:List Value}(h:(rT k)[i]? = some x):i<32∧x=[.int .i64 (i:Int),wv (ks k i).2]:=by
 have hi:i<32:=by have:=(List.getElem?_eq_some_iff.1 h).1;rwa[Qf] at this
 rw[Qdn k i hi] at h;exact⟨hi,by simpa using h.symm⟩
theorem Qdp (k:W2):∀ x∈rT k,x.length=2:=by intro x hx;simp[rT] at hx;obtain⟨i,_,rfl⟩:=hx;rfl
set_option maxHeartbeats 1000000 in
theorem Vt (k b:W2)(w:World):
 Calls Tryz.prog 123 [kv k,kv b].toArray w fun e w'=>∃ v,e=.returned v∧(v=kv (jP k b)∧Gr w w'):=by
 refine bP 19 Tryz.func123 rfl rfl rfl<|qs 3 rfl<|qe rfl (bT rfl (by rfl)) ?_;rintro _ w1 ⟨b1,rfl,hbw1,Bw1,Gw1⟩;have z1:=Gw1.size;have lt2:=Bw1.lt;refine qe rfl (bT rfl (by rfl)) ?_;rintro _ w2 ⟨b2,rfl,hbw2,Bw2,Gw2⟩;have z3:=Gw2.size;have lt4:=Bw2.lt;refine qe rfl (bD fU (by rfl)) ?_;rintro _ w3 ⟨b3,rfl,hbw3,Bw3,Gw3⟩;have z5:=Gw3.size;have lt6:=Bw3.lt;refine qd 4 rfl ?_;have B7:=(Bx.gr Bw2 Gw3);refine qv rfl (aO bJ rfl B7 (by rfl))<|qe rfl (kX I6 rfl (Au _ _)) ?_;rintro _ w4 ⟨rfl,Gw4⟩;have z8:=Gw4.size;refine qe rfl (bD qG (by rfl)) ?_;rintro _ w5 ⟨b5,rfl,hbw5,Bw5,Gw5⟩;have z9:=Gw5.size;have lt10:=Bw5.lt;refine qe rfl (nX (jW).siz rfl rfl (by rfl) (by rfl) (by rfl) Bw5 (by rfl)) ?_;rintro _ w6 ⟨Bw6,Mw6⟩;have z11:=Mw6.size;refine aQ<|aY<|qs 2 rfl ?_;have B12:=(Bx.md (Bx.gr (Bx.gr (Bx.gr (Bx.gr Bw1 Gw2) Gw3) Gw4) Gw5) Mw6 (by omega));refine qv rfl (aO bJ rfl B12 (by rfl))<|qe rfl (kX Qb8 rfl (Qdq _ _)) ?_;rintro _ w7 ⟨b7,rfl,hb7,Bk7,Gw7⟩;have z13:=Gw7.size;have lt14:=Bk7.lt;refine aQ<|bH ?_;have X15:=(Gr.trans (Gr.md (Gr.trans (Gr.trans (Gr.trans (Gr.trans (Gr.trans (Gr.refl w) Gw1) Gw2) Gw3) Gw4) Gw5) Mw6 (by omega)) Gw7);have B16:=(Bx.gr Bw6 Gw7);refine rO (gf:=306) (xs:=rT k) (cap:=[b7]) rfl Qbh (Qdr k b7 _ Bk7) (Qdp k) rfl (fun rk fp W=>fp=[b5]∧Bx W b5 326 ([wv (I7 k b rk).1,wv (I7 k b rk).2])) (fun _ _ _ _=>False) [b5] (Qgl _ _ _) (fun _=>vM) (by simp<;>omega) (⟨rfl,B16⟩) ?_ ?_ ?_
 · rintro l rk x fp w8 hl hx ⟨rfl,Bw8⟩ Kw8 hF hln cP;have z17:=Kw8.size;obtain⟨hi,rfl⟩:=Qdo hx;refine qg 1 rfl<|qv rfl (fJ rfl)<|aP<|⟨rfl,(Gr.refl _),?_⟩;rintro w9 Mw9 ⟨_,Bw9⟩;have z18:=Mw9.size;refine bH<|qg 4 rfl<|qv rfl (aO jW rfl Bw9 (by rfl))<|qv rfl (aB rfl)<|qe rfl (kX Qb9 rfl (Qg2 _ _ _)) ?_;rintro _ w10 ⟨rfl,Gw10⟩;have z19:=Gw10.size;have B20:=(Bx.gr Bw9 Gw10);refine qe rfl (nX (jW).siz rfl rfl (by rfl) (by rfl) (by rfl) B20 (by rfl)) ?_;rintro _ w11 ⟨Bw11,Mw11⟩;have z21:=Mw11.size;refine aP<|bW<|⟨(Kp.md (Kp.gr (Kp.refl _ _) Gw10) Mw11 (by first|exact Or.inl (by simp)|exact Or.inr (by omega))),_,fun c hc=>.inl hc,?_⟩
   exact⟨rfl,by rw[Qni];exact Bw11⟩
 · rintro Dw12 fp w12 hDw12 Dfw12 nw12 ⟨rfl,Bw12⟩ Kw12;have z22:=Kw12.size;have lt22:=Df.lt (w:=w12) Dfw12;rw[Qf] at Bw12;refine bW<|bY<|qs 3 rfl<|qv rfl (aO jW rfl Bw12 (by rfl))<|qe rfl (kX Fe rfl (Lf _ _)) ?_;rintro _ w13 ⟨rfl,Gw13⟩;have z23:=Gw13.size;have B24:=(Bx.gr (Bx.kp (Bx.gr (Bx.md (Bx.gr (Bx.gr Bw3 Gw4) Gw5) Mw6 (by omega)) Gw7) Kw12 (by simp<;>first|omega|(split<;>omega))) Gw13)
   refine qe rfl (nX (bJ).siz rfl rfl (by rfl) (by rfl) (by rfl) B24 (by rfl)) ?_;rintro _ w14 ⟨Bw14,Mw14⟩;have z25:=Mw14.size;refine aQ<|aG ?_;have DL26:=(Df.md (Df.gr Dfw12 Gw13) Mw14 (by omega));have L26:=Md.put (w:=w14) Dw12 (.deferred none);have zL26:=L26.size;have B27:=(Bx.md Bw14 L26 (by omega));have X28:Gr w (w14.putObj Dw12 (.deferred none)):=(Gr.md (Gr.md (Gr.trans (Gr.kp X15 Kw12 (by simp<;>first|omega|(split<;>omega))) Gw13) Mw14 (by omega)) L26 (by omega))
   refine⟨_,_,⟨Dw12,rfl,DL26,rfl⟩,vF rfl bJ rfl B27 (by rfl),?_⟩;exact⟨rfl,X28⟩
 rintro _ _ _ _ _ _ _ _ _ h _;exact h.elim
end Go.Proofs.YtplcaaglieefgaaGreat

end
section
namespace Go.Proofs.YtplcaaglieefgaaGreat
open Go Go.RowKit Go.Sx
theorem Qlm:En Tryz.prog 124:=fun _ _=>by kernel_rfl
theorem I0:En Tryz.prog 123:=fun _ _=>by kernel_rfl
theorem Qzk:ZV Tryz.prog 374 (.agg [.int .u64 0,.int .u64 0,.int .u64 0,.int .u64 0,.int .u64 0,.int .u64 0,.int .u64 0,.int .u64 0,.int .u64 0,.int .u64 0,.int .u64 0,.int .u64 0,.int .u64 0,.int .u64 0,.int .u64 0,.int .u64 0,.int .u64 0,.int .u64 0,.int .u64 0,.int .u64 0,.int .u64 0,.int .u64 0,.int .u64 0,.int .u64 0,.int .u64 0,.int .u64 0,.int .u64 0,.int .u64 0,.int .u64 0,.int .u64 0,.int .u64 0,.int .u64 0].toArray):=fun _=>by kernel_rfl
theorem Qmx:En Tryz.prog 295:=fun _ _=>by kernel_rfl
set_option maxHeartbeats 1000000 in
theorem Qj6 (tag:Int)(h0:0≤tag)(h1:tag≤255)(c n:BitVec 64)(w:World):
 Calls Tryz.prog 124 [.int .u8 tag,wv c,wv n].toArray w fun e w'=>∃ v,e=.returned v∧(v=kv (Ld tag c n)∧Gr w w'):=by
 refine bP 15 Tryz.func124 rfl rfl rfl<|qs 1 rfl<|qe rfl (bD fU (by rfl)) ?_;rintro _ w1 ⟨b1,rfl,hbw1,Bw1,Gw1⟩;have z1:=Gw1.size;have lt2:=Bw1.lt;refine qd 9 rfl<|qv rfl (aB rfl)<|qv rfl (Gk uT rfl (by omega) (by omega))<|qv rfl (Jg rfl rfl (by omega))<|qv rfl (aB rfl)<|qv rfl (C4 rfl rfl)<|qv rfl (aB rfl)<|qv rfl (cR Li rfl rfl)<|qe rfl (kX Fe rfl (Lf (Ld tag c n) _)) ?_;rintro _ w2 ⟨rfl,Gw2⟩;have z3:=Gw2.size;have B4:=(Bx.gr Bw1 Gw2);refine qe rfl (nX (bJ).siz rfl rfl (by rfl) (by rfl) (by rfl) B4 (by rfl)) ?_;rintro _ w3 ⟨Bw3,Mw3⟩;have z5:=Mw3.size;refine aQ<|aG ?_;have X6:=(Gr.md (Gr.trans (Gr.trans (Gr.refl w) Gw1) Gw2) Mw3 (by omega));refine⟨_,_,rfl,vF rfl bJ rfl Bw3 (by rfl),?_⟩;exact⟨rfl,X6⟩
set_option maxHeartbeats 1000000 in
theorem kL (k:W2)(tag:Int)(h0:0≤tag)(h1:tag≤255)(n:BitVec 64)(w:World):
 Calls Tryz.prog 52 [kv k,.int .u8 tag,wv n].toArray w fun e w'=>∃ v,e=.returned v∧(v=kv (cX k tag n)∧Gr w w'):=by
 refine bP 12 Tryz.func52 rfl rfl rfl<|qs 2 rfl<|qe rfl (bT rfl (by rfl)) ?_;rintro _ w1 ⟨b1,rfl,hbw1,Bw1,Gw1⟩;have z1:=Gw1.size;have lt2:=Bw1.lt;refine qe rfl (bD fU (by rfl)) ?_;rintro _ w2 ⟨b2,rfl,hbw2,Bw2,Gw2⟩;have z3:=Gw2.size;have lt4:=Bw2.lt;refine aQ<|aY<|Zq [b2] [(0,3),(1,3),(2,3),(3,0),(4,0),(5,2)] (by kernel_rfl) (by kernel_rfl) rfl (by kernel_rfl) ?_;intro w3 Gw3 zw3;have B5:=(Bx.gr (Bx.gr Bw1 Gw2) Gw3);refine eY rfl rfl rfl (Kp.refl [b2] w3) (fun w hS=>aO bJ rfl (Bx.kp B5 hS (by simp<;>first|omega|(split<;>omega))) (by rfl))<|eY rfl rfl rfl (Kp.refl [b2] w3) (fun w hS=>aB rfl)<|eY rfl rfl rfl (Kp.refl [b2] w3) (fun w hS=>aB rfl)<|Va rfl rfl rfl (kX Qlm rfl (Qj6 _ (by omega) (by omega) 0#64 _ _)) ?_
 rintro _ w4 ⟨rfl,Gw4⟩;have z6:=Gw4.size;refine⟨Gw4,?_⟩;refine Va rfl rfl rfl (kX I0 rfl (Vt _ _ _)) ?_;rintro _ w5 ⟨rfl,Gw5⟩;have z7:=Gw5.size;refine⟨Gw5,?_⟩;have B8:=(Bx.gr (Bx.gr (Bx.gr Bw2 Gw3) Gw4) Gw5);refine W8 (b:=b2) rfl rfl rfl rfl (nX (bJ).siz rfl rfl (by rfl) (by rfl) (by rfl) B8 (by rfl)) (by first|exact Or.inl (by simp)|exact Or.inr (by omega)) ?_
 rintro _ w6 ⟨Bw6,Mw6⟩;have z9:=Mw6.size;refine⟨Mw6,?_⟩;refine aQ<|aG ?_;have X10:=(Gr.md (Gr.trans (Gr.trans (Gr.trans (Gr.trans (Gr.trans (Gr.refl w) Gw1) Gw2) Gw3) Gw4) Gw5) Mw6 (by omega));refine⟨_,_,rfl,vF rfl bJ rfl Bw6 (by rfl),?_⟩;exact⟨rfl,X10⟩
def sI (k:W2)(n:Nat):List Value:=(List.range 32).map fun i=>if i<n then wv (ks k i).2 else .int .u64 0
theorem Qpy (k:W2)(n:Nat):(sI k n).length=32:=by simp[sI]
theorem Qpw (k:W2):sI k 0=List.replicate 32 (.int .u64 0):=by rfl
theorem Qpz (k:W2)(n:Nat)(h:n<32):(sI k n).set (0+(n:Int).toNat*1) (wv (ks k n).2)=sI k (n+1):=by
 have e:0+(n:Int).toNat*1=n:=by omega
 rw[e];apply List.ext_getElem?;intro i;rw[List.getElem?_set];unfold sI;by_cases hi:i<32
 · by_cases h2:n=i
   · subst h2;simp[h]
   · have:(i<n+1)=(i<n):=by apply propext;omega
     simp[h2,hi,this]
 · simp[hi];omega
theorem Qpx (k:W2)(n:Nat)(h:n<32):(sI k 32)[0+((n:Int)+1-1).toNat*1]? = some (wv (ks k n).2):=by
 have e:0+((n:Int)+1-1).toNat*1=n:=by omega
 rw[e];simp[sI,h]
theorem Ql2 (k b:W2)(j:Nat)(h:j<32):W9 k b j=nU (W9 k b (j+1)) (ks k j).2:=by
 unfold W9;rw[show 32-j=32-(j+1)+1 from by omega,List.range_succ,List.foldl_append,List.foldl_cons,List.foldl_nil,show 31-(32-(j+1))=j from by omega]
set_option maxHeartbeats 1000000 in
theorem Vd (k b:W2)(w:World):
 Calls Tryz.prog 211 [kv k,kv b].toArray w fun e w'=>∃ v,e=.returned v∧(v=kv (oH k b)∧Gr w w'):=by
 refine bP 30 Tryz.func211 rfl rfl rfl<|qs 3 rfl<|qe rfl (bT rfl (by rfl)) ?_;rintro _ w1 ⟨b1,rfl,hbw1,Bw1,Gw1⟩;have z1:=Gw1.size;have lt2:=Bw1.lt;refine qe rfl (bT rfl (by rfl)) ?_;rintro _ w2 ⟨b2,rfl,hbw2,Bw2,Gw2⟩;have z3:=Gw2.size;have lt4:=Bw2.lt;refine qe rfl (bD fU (by rfl)) ?_;rintro _ w3 ⟨b3,rfl,hbw3,Bw3,Gw3⟩;have z5:=Gw3.size;have lt6:=Bw3.lt;refine qd 1 rfl<|qe rfl (bD Qzk (by rfl)) ?_;rintro _ w4 ⟨b4,rfl,hbw4,Bw4,Gw4⟩;have z7:=Gw4.size;have lt8:=Bw4.lt;refine aQ<|aY<|qs 2 rfl ?_;have B9:=(Bx.gr (Bx.gr (Bx.gr Bw1 Gw2) Gw3) Gw4);refine qv rfl (aO bJ rfl B9 (by rfl))<|qe rfl (kX Qb8 rfl (Qdq _ _)) ?_;rintro _ w5 ⟨b5,rfl,hb5,Bk5,Gw5⟩;have z10:=Gw5.size;have lt11:=Bk5.lt;refine aQ<|bH ?_;have X12:=(Gr.trans (Gr.trans (Gr.trans (Gr.trans (Gr.trans (Gr.refl w) Gw1) Gw2) Gw3) Gw4) Gw5);have B13:=(Bx.gr Bw4 Gw5);refine rO (gf:=306) (xs:=rT k) (cap:=[b5]) rfl Qbh (Qdr k b5 _ Bk5) (Qdp k) rfl (fun rk fp W=>fp=[b4]∧Bx W b4 374 (sI k rk)) (fun _ _ _ _=>False) [b4] (Qgl _ _ _) (fun _=>vM) (by simp<;>omega) (⟨rfl,by rw[Qpw];exact B13⟩) ?_ ?_ ?_
 · rintro l rk x fp w6 hl hx ⟨rfl,Bw6⟩ Kw6 hF hln cP;have z14:=Kw6.size;obtain⟨hi,rfl⟩:=Qdo hx;refine qs 1 rfl<|qv rfl (fJ rfl)<|aQ<|qg 1 rfl<|qv rfl (fJ rfl)<|aP<|⟨rfl,(Gr.refl _),?_⟩;rintro w7 Mw7 ⟨_,Bw7⟩;have z15:=Mw7.size;refine bH<|qg 4 rfl<|qv rfl (aB rfl)<|qv rfl (aB rfl)<|qv rfl (tB Tryz.underlying374 (cQ).siz rfl rfl (by omega) (by omega))<|qe rfl (P0 (cQ).siz rfl rfl rfl Bw7 (by rw[Qpy];omega)) ?_;rintro _ w8 ⟨Bw8,Mw8⟩;have z16:=Mw8.size;refine aP<|bW<|⟨(Kp.md (Kp.refl _ _) Mw8 (by first|exact Or.inl (by simp)|exact Or.inr (by omega))),_,fun c hc=>.inl hc,?_⟩
   exact⟨rfl,by rw[←Qpz k rk hi];exact Bw8⟩
 · rintro Dw9 fp w9 hDw9 Dfw9 nw9 ⟨rfl,Bw9⟩ Kw9;have z17:=Kw9.size;have lt17:=Df.lt (w:=w9) Dfw9;rw[Qf] at Bw9;refine bW<|bY<|qs 4 rfl ?_;have B18:=(Bx.kp (Bx.gr (Bx.gr (Bx.gr Bw2 Gw3) Gw4) Gw5) Kw9 (by simp<;>first|omega|(split<;>omega)))
   refine qv rfl (aO bJ rfl B18 (by rfl))<|qe rfl (kX I6 rfl (Au _ _)) ?_;rintro _ w10 ⟨rfl,Gw10⟩;have z19:=Gw10.size;refine qe rfl (bD qG (by rfl)) ?_;rintro _ w11 ⟨b11,rfl,hbw11,Bw11,Gw11⟩;have z20:=Gw11.size;have lt21:=Bw11.lt;refine qe rfl (nX (jW).siz rfl rfl (by rfl) (by rfl) (by rfl) Bw11 (by rfl)) ?_;rintro _ w12 ⟨Bw12,Mw12⟩;have z22:=Mw12.size;refine aQ<|aY<|qs 1 rfl<|qv rfl (fJ rfl)<|aQ<|bH ?_;have X23:=(Gr.md (Gr.trans (Gr.trans (Gr.kp X12 Kw9 (by simp<;>first|omega|(split<;>omega))) Gw10) Gw11) Mw12 (by omega))
   refine dH (α:=Nat) [9,19,20,21,22,23,24,25,26,27] (fun j=>[(9,.int .i64 ((j:Int)-1))]) (fun j wr=>(j≤32)∧Bx wr b11 326 ([wv (W9 k b j).1,wv (W9 k b j).2])∧Kp [b11] w12 wr) (fun j=>j) (32) ?_ ?_ ?_
   · exact aH
   · exact⟨Nat.le_refl _,Bw12,Kp.refl _ _⟩
   rintro j w13 ⟨hj,Bw13_b11,Kw13⟩;have z24:=Kw13.size;refine aY<|qs 2 rfl<|qv rfl (aB rfl)<|qv rfl (gF rfl rfl)<|aQ<|lX rfl (fun h1=>?_) (fun h1=>?_)
   · -- h1 True
     replace h1:=of_decide_eq_true h1;obtain⟨j,rfl⟩:∃ i,j=i+1:=⟨j-1,by omega⟩;refine qu<|aY<|bH<|Zq [b11] [(0,1),(1,3),(2,3),(3,3),(4,0),(5,2)] (by kernel_rfl) (by kernel_rfl) rfl (by kernel_rfl) ?_;intro w14 Gw14 zw14;have B25:=(Bx.gr Bw13_b11 Gw14);refine Sj rfl rfl rfl (Gr.refl w14) (fun w hS=>aO jW rfl (Bx.gr B25 hS) (by rfl))<|eY rfl rfl rfl (Kp.refl [b11] w14) (fun w hS=>aB rfl)<|eY rfl rfl rfl (Kp.refl [b11] w14) (fun w hS=>tB Tryz.underlying374 (cQ).siz rfl rfl (by omega) (by omega)) ?_;have B26:=(Bx.gr (Bx.kp (Bx.md (Bx.gr (Bx.gr Bw9 Gw10) Gw11) Mw12 (by omega)) Kw13 (by simp<;>first|omega|(split<;>omega))) Gw14)
     refine eY rfl rfl rfl (Kp.refl [b11] w14) (fun w hS=>aV cQ rfl (Bx.kp B26 hS (by simp<;>first|omega|(split<;>omega))) (by exact Qpx k j (by omega)))<|Va rfl rfl rfl (kX Qmx rfl (Qis _ _ _)) ?_
     rintro _ w15 ⟨rfl,Gw15⟩;have z27:=Gw15.size;refine⟨Gw15,?_⟩;have B28:=(Bx.gr B25 Gw15);refine W8 (b:=b11) rfl rfl rfl rfl (nX (jW).siz rfl rfl (by rfl) (by rfl) (by rfl) B28 (by rfl)) (by first|exact Or.inl (by simp)|exact Or.inr (by omega)) ?_
     rintro _ w16 ⟨Bw16,Mw16⟩;have z29:=Mw16.size;refine⟨Mw16,?_⟩;refine aP<|bW<|bY<|qg 3 rfl<|qv rfl (aB rfl)<|qv rfl (Aq rfl rfl (by omega) (by omega))<|qv rfl (fJ rfl)<|aP ?_;have K_30:=(Kp.md (Kp.gr (Kp.gr Kw13 Gw14) Gw15) Mw16 (by simp<;>first|omega|(split<;>omega)))
     refine⟨rfl,j,?_,⟨?_,?_,K_30⟩,?_⟩
     · repeat' first|exact trivial|refine⟨by first|rfl|exact congrArg (fun x=>some (Value.int .i64 x)) (by omega),?_⟩
     · omega
     · rw[Ql2 k b j (by omega)];exact Bw16
     first|omega|(dsimp only;omega)
   replace h1:=of_decide_eq_false h1;obtain rfl:j=0:=by omega
   refine cF<|bS<|bS<|cS<|bY<|qs 3 rfl<|qv rfl (aO jW rfl Bw13_b11 (by rfl))<|qe rfl (kX Fe rfl (Lf _ _)) ?_;rintro _ w17 ⟨rfl,Gw17⟩;have z31:=Gw17.size;have B32:=(Bx.gr (Bx.kp (Bx.md (Bx.gr (Bx.gr (Bx.kp (Bx.gr (Bx.gr Bw3 Gw4) Gw5) Kw9 (by simp<;>first|omega|(split<;>omega))) Gw10) Gw11) Mw12 (by omega)) Kw13 (by simp<;>first|omega|(split<;>omega))) Gw17)
   refine qe rfl (nX (bJ).siz rfl rfl (by rfl) (by rfl) (by rfl) B32 (by rfl)) ?_;rintro _ w18 ⟨Bw18,Mw18⟩;have z33:=Mw18.size;refine aQ<|aG ?_;have DL34:=(Df.md (Df.gr (Df.kp (Df.md (Df.gr (Df.gr Dfw9 Gw10) Gw11) Mw12 (by omega)) Kw13 (by simp<;>first|omega|(split<;>omega))) Gw17) Mw18 (by omega))
   have L34:=Md.put (w:=w18) Dw9 (.deferred none);have zL34:=L34.size;have B35:=(Bx.md Bw18 L34 (by omega));have X36:Gr w (w18.putObj Dw9 (.deferred none)):=(Gr.md (Gr.md (Gr.trans (Gr.kp X23 Kw13 (by simp<;>first|omega|(split<;>omega))) Gw17) Mw18 (by omega)) L34 (by omega))
   refine⟨_,_,⟨Dw9,rfl,DL34,rfl⟩,vF rfl bJ rfl B35 (by rfl),?_⟩;exact⟨rfl,X36⟩
 rintro _ _ _ _ _ _ _ _ _ h _;exact h.elim
end Go.Proofs.YtplcaaglieefgaaGreat

end
section
namespace Go.Proofs.YtplcaaglieefgaaGreat
open Go Go.RowKit Go.Sx
theorem Ia:ZV Tryz.prog 5 (.int .u8 0):=fun _=>by kernel_rfl
theorem Ot:lV Tryz.prog 54 1 5 1 [.int .u8 0]:=pT Tryz.underlying54 (bO).siz Ia rfl rfl (by kernel_rfl)
theorem Z0:lS Tryz.prog 54 5 1 1:=sZ Tryz.underlying54 rfl (by kernel_rfl)
theorem Ni:ZV Tryz.prog 22 (.int .u64 0):=fun _=>by kernel_rfl
end Go.Proofs.YtplcaaglieefgaaGreat

end
section
namespace Go.Proofs.YtplcaaglieefgaaGreat
open Go Go.RowKit Go.Sx
theorem nL:CV Tryz.prog 5 3 .i64:=fun _ _ _=>by kernel_rfl
theorem Qnb:En Tryz.prog 384:=fun _ _=>by kernel_rfl
theorem Qqn (n k:Nat)(h:2^k≤n):Nat.log2 n=Nat.log2 (n / 2^k)+k:=by
 induction k generalizing n with
 | zero=>simp
 | succ k ih=>
  have h2:2^k≤n / 2:=by rw[Nat.le_div_iff_mul_le (by omega)];rw[Nat.pow_succ] at h;omega
  have h1:2≤n:=by have:0<2^k:=Nat.two_pow_pos k;rw[Nat.pow_succ] at h;omega
  rw[Nat.log2_def,if_pos h1,ih (n / 2) h2,Nat.div_div_eq_div_mul,Nat.pow_succ,Nat.mul_comm 2];omega
theorem oR (a:Int)(k m:Nat)(hm:2^k=m)(h:(m:Int)≤a):lg a=lg (a / (m:Int))+k:=by
 obtain⟨n,rfl⟩:=Int.eq_ofNat_of_zero_le (show 0≤a by omega);subst hm;have hp:0<2^k:=Nat.two_pow_pos k;have h':2^k≤n:=by omega
 have e:((n:Int) / ((2^k:Nat):Int)).toNat=n / 2^k:=by rw[←Int.natCast_ediv];rfl
 have h1:¬ (n / 2^k=0):=by rw[Nat.div_eq_zero_iff];omega
 unfold lg;rw[e,Int.toNat_natCast,if_neg h1,if_neg (by omega),Qqn n k h'];omega
def rL:ByteArray:=⟨#[0,1,2,2,3,3,3,3,4,4,4,4,4,4,4,4,5,5,5,5,5,5,5,5,5,5,5,5,5,5,5,5,6,6,6,6,6,6,6,6,6,6,6,6,6,6,6,6,6,6,6,6,6,6,6,6,6,6,6,6,6,6,6,6,7,7,7,7,7,7,7,7,7,7,7,7,7,7,7,7,7,7,7,7,7,7,7,7,7,7,7,7,7,7,7,7,7,7,7,7,7,7,7,7,7,7,7,7,7,7,7,7,7,7,7,7,7,7,7,7,7,7,7,7,7,7,7,7,8,8,8,8,8,8,8,8,8,8,8,8,8,8,8,8,8,8,8,8,8,8,8,8,8,8,8,8,8,8,8,8,8,8,8,8,8,8,8,8,8,8,8,8,8,8,8,8,8,8,8,8,8,8,8,8,8,8,8,8,8,8,8,8,8,8,8,8,8,8,8,8,8,8,8,8,8,8,8,8,8,8,8,8,8,8,8,8,8,8,8,8,8,8,8,8,8,8,8,8,8,8,8,8,8,8,8,8,8,8,8,8,8,8,8,8,8,8,8,8,8,8,8,8,8,8,8,8]⟩
theorem Qqe:∀ k:Fin 256,rL[k.1]? = some (UInt8.ofNat (lg (k.1:Int)).toNat)∧lg (k.1:Int)=((UInt8.ofNat (lg (k.1:Int)).toNat).toNat:Int):=by decide +kernel
theorem kU {a:Int}(h0:0≤a)(h1:a<256):rL[a.toNat]? = some (UInt8.ofNat (lg a).toNat)∧lg a=((UInt8.ofNat (lg a).toNat).toNat:Int):=by
 obtain⟨n,rfl⟩:=Int.eq_ofNat_of_zero_le h0;exact Qqe ⟨n,by omega⟩
theorem vJ (a:Int) : -9223372036854775808≤lg a:=by unfold lg;split<;>omega
theorem vZ {a:Int}(h0:0≤a)(h1:a<256):lg a≤9223372036854775807:=by have:=(kU h0 h1).2;have:=(UInt8.ofNat (lg a).toNat).toNat_lt;omega
theorem vQ {b:Int}(a:Int)(h:0≤b) : -9223372036854775808≤b+lg a:=by unfold lg;split<;>omega
theorem vX {a b:Int}(h0:0≤a)(h1:a<256)(hb:b≤1000):b+lg a≤9223372036854775807:=by have:=(kU h0 h1).2;have:=(UInt8.ofNat (lg a).toNat).toNat_lt;omega
set_option maxRecDepth 20000 in
set_option maxHeartbeats 1000000 in
theorem Qqd (a:Int)(ha1:0≤a)(ha2:a<18446744073709551616)(w:World):
 Calls Tryz.prog 384 [.int .u64 a].toArray w fun e w'=>∃ v,e=.returned v∧(v=.int .i64 (lg a)∧Gr w w'):=by
 refine bP 25 Tryz.func384 rfl rfl rfl<|qs 1 rfl<|qv rfl (fJ rfl)<|aQ<|aY<|qs 2 rfl<|qv rfl (aB rfl)<|qv rfl (gF rfl rfl)<|aQ<|lX rfl (fun h1=>?_) (fun h1=>?_)
 · -- h1 True
   replace h1:=of_decide_eq_true h1;refine qs 3 rfl<|qv rfl (aB rfl)<|qv rfl (zU (n:=32) (m:=4294967296) rfl rfl rfl (by decide))<|qv rfl (fJ rfl)<|aQ<|qg 1 rfl<|qv rfl (fJ rfl)<|aQ<|aY<|qs 2 rfl<|qv rfl (aB rfl)<|qv rfl (gF rfl rfl)<|aQ<|lX rfl (fun h2=>?_) (fun h2=>?_)
   · -- h2 True
     replace h2:=of_decide_eq_true h2;refine qs 3 rfl<|qv rfl (aB rfl)<|qv rfl (zU (n:=16) (m:=65536) rfl rfl rfl (by decide))<|qv rfl (fJ rfl)<|aQ<|qg 3 rfl<|qv rfl (aB rfl)<|qv rfl (kY rfl rfl (by omega) (by omega))<|qv rfl (fJ rfl)<|aQ<|aY<|qs 2 rfl<|qv rfl (aB rfl)<|qv rfl (gF rfl rfl)<|aQ<|lX rfl (fun h3=>?_) (fun h3=>?_)
     · -- h3 True
       replace h3:=of_decide_eq_true h3;refine qs 3 rfl<|qv rfl (aB rfl)<|qv rfl (zU (n:=8) (m:=256) rfl rfl rfl (by decide))<|qv rfl (fJ rfl)<|aQ<|qg 3 rfl<|qv rfl (aB rfl)<|qv rfl (kY rfl rfl (by omega) (by omega))<|qv rfl (fJ rfl)<|qd 7 rfl<|qv rfl (aB rfl)<|qv rfl (aB rfl)<|qv rfl (vO oY rfl (by omega) (by omega))<|qv rfl (eR (wQ Tryz.underlying9 rfl rfl (by omega) (show rL[_]? = _ from(kU (by omega) (by omega)).1)) (congrArg (Value.int .u8) (kU (by omega) (by omega)).2.symm))<|qv rfl (tR nL rfl (vJ _) (vZ (by omega) (by omega)))<|qv rfl (kY rfl rfl (vQ _ (by decide)) (vX (by omega) (by omega) (by decide)))<|qv rfl (fJ rfl)<|aQ<|aG<|⟨_,_,rfl,qW rfl rfl,?_⟩;refine⟨congrArg (Value.int .i64) ?_,(Gr.refl w)⟩;have e0:lg (a:Int)=lg ((a:Int) / 4294967296)+32:=oR (a:Int) 32 4294967296 (by decide) (by omega);have e1:lg ((a:Int) / 4294967296)=lg (((a:Int) / 4294967296) / 65536)+16:=oR ((a:Int) / 4294967296) 16 65536 (by decide) (by omega);have e2:lg (((a:Int) / 4294967296) / 65536)=lg ((((a:Int) / 4294967296) / 65536) / 256)+8:=oR (((a:Int) / 4294967296) / 65536) 8 256 (by decide) (by omega);omega
     replace h3:=of_decide_eq_false h3;refine qu<|qs 7 rfl<|qv rfl (aB rfl)<|qv rfl (aB rfl)<|qv rfl (vO oY rfl (by omega) (by omega))<|qv rfl (eR (wQ Tryz.underlying9 rfl rfl (by omega) (show rL[_]? = _ from(kU (by omega) (by omega)).1)) (congrArg (Value.int .u8) (kU (by omega) (by omega)).2.symm))<|qv rfl (tR nL rfl (vJ _) (vZ (by omega) (by omega)))<|qv rfl (kY rfl rfl (vQ _ (by decide)) (vX (by omega) (by omega) (by decide)))<|qv rfl (fJ rfl)<|aQ<|aG<|⟨_,_,rfl,qW rfl rfl,?_⟩;refine⟨congrArg (Value.int .i64) ?_,(Gr.refl w)⟩;have e0:lg (a:Int)=lg ((a:Int) / 4294967296)+32:=oR (a:Int) 32 4294967296 (by decide) (by omega);have e1:lg ((a:Int) / 4294967296)=lg (((a:Int) / 4294967296) / 65536)+16:=oR ((a:Int) / 4294967296) 16 65536 (by decide) (by omega);omega
   replace h2:=of_decide_eq_false h2;refine qu<|aY<|qs 2 rfl<|qv rfl (aB rfl)<|qv rfl (gF rfl rfl)<|aQ<|lX rfl (fun h4=>?_) (fun h4=>?_)
   · -- h4 True
     replace h4:=of_decide_eq_true h4;refine qs 3 rfl<|qv rfl (aB rfl)<|qv rfl (zU (n:=8) (m:=256) rfl rfl rfl (by decide))<|qv rfl (fJ rfl)<|aQ<|qg 3 rfl<|qv rfl (aB rfl)<|qv rfl (kY rfl rfl (by omega) (by omega))<|qv rfl (fJ rfl)<|qd 7 rfl<|qv rfl (aB rfl)<|qv rfl (aB rfl)<|qv rfl (vO oY rfl (by omega) (by omega))<|qv rfl (eR (wQ Tryz.underlying9 rfl rfl (by omega) (show rL[_]? = _ from(kU (by omega) (by omega)).1)) (congrArg (Value.int .u8) (kU (by omega) (by omega)).2.symm))<|qv rfl (tR nL rfl (vJ _) (vZ (by omega) (by omega)))<|qv rfl (kY rfl rfl (vQ _ (by decide)) (vX (by omega) (by omega) (by decide)))<|qv rfl (fJ rfl)<|aQ<|aG<|⟨_,_,rfl,qW rfl rfl,?_⟩;refine⟨congrArg (Value.int .i64) ?_,(Gr.refl w)⟩;have e0:lg (a:Int)=lg ((a:Int) / 4294967296)+32:=oR (a:Int) 32 4294967296 (by decide) (by omega);have e1:lg ((a:Int) / 4294967296)=lg (((a:Int) / 4294967296) / 256)+8:=oR ((a:Int) / 4294967296) 8 256 (by decide) (by omega);omega
   replace h4:=of_decide_eq_false h4;refine qu<|qs 7 rfl<|qv rfl (aB rfl)<|qv rfl (aB rfl)<|qv rfl (vO oY rfl (by omega) (by omega))<|qv rfl (eR (wQ Tryz.underlying9 rfl rfl (by omega) (show rL[_]? = _ from(kU (by omega) (by omega)).1)) (congrArg (Value.int .u8) (kU (by omega) (by omega)).2.symm))<|qv rfl (tR nL rfl (vJ _) (vZ (by omega) (by omega)))<|qv rfl (kY rfl rfl (vQ _ (by decide)) (vX (by omega) (by omega) (by decide)))<|qv rfl (fJ rfl)<|aQ<|aG<|⟨_,_,rfl,qW rfl rfl,?_⟩;refine⟨congrArg (Value.int .i64) ?_,(Gr.refl w)⟩;have e0:lg (a:Int)=lg ((a:Int) / 4294967296)+32:=oR (a:Int) 32 4294967296 (by decide) (by omega);omega
 replace h1:=of_decide_eq_false h1;refine qu<|aY<|qs 2 rfl<|qv rfl (aB rfl)<|qv rfl (gF rfl rfl)<|aQ<|lX rfl (fun h5=>?_) (fun h5=>?_)
 · -- h5 True
   replace h5:=of_decide_eq_true h5;refine qs 3 rfl<|qv rfl (aB rfl)<|qv rfl (zU (n:=16) (m:=65536) rfl rfl rfl (by decide))<|qv rfl (fJ rfl)<|aQ<|qg 3 rfl<|qv rfl (aB rfl)<|qv rfl (kY rfl rfl (by omega) (by omega))<|qv rfl (fJ rfl)<|aQ<|aY<|qs 2 rfl<|qv rfl (aB rfl)<|qv rfl (gF rfl rfl)<|aQ<|lX rfl (fun h6=>?_) (fun h6=>?_)
   · -- h6 True
     replace h6:=of_decide_eq_true h6;refine qs 3 rfl<|qv rfl (aB rfl)<|qv rfl (zU (n:=8) (m:=256) rfl rfl rfl (by decide))<|qv rfl (fJ rfl)<|aQ<|qg 3 rfl<|qv rfl (aB rfl)<|qv rfl (kY rfl rfl (by omega) (by omega))<|qv rfl (fJ rfl)<|qd 7 rfl<|qv rfl (aB rfl)<|qv rfl (aB rfl)<|qv rfl (vO oY rfl (by omega) (by omega))<|qv rfl (eR (wQ Tryz.underlying9 rfl rfl (by omega) (show rL[_]? = _ from(kU (by omega) (by omega)).1)) (congrArg (Value.int .u8) (kU (by omega) (by omega)).2.symm))<|qv rfl (tR nL rfl (vJ _) (vZ (by omega) (by omega)))<|qv rfl (kY rfl rfl (vQ _ (by decide)) (vX (by omega) (by omega) (by decide)))<|qv rfl (fJ rfl)<|aQ<|aG<|⟨_,_,rfl,qW rfl rfl,?_⟩;refine⟨congrArg (Value.int .i64) ?_,(Gr.refl w)⟩;have e0:lg (a:Int)=lg ((a:Int) / 65536)+16:=oR (a:Int) 16 65536 (by decide) (by omega);have e1:lg ((a:Int) / 65536)=lg (((a:Int) / 65536) / 256)+8:=oR ((a:Int) / 65536) 8 256 (by decide) (by omega);omega
   replace h6:=of_decide_eq_false h6;refine qu<|qs 7 rfl<|qv rfl (aB rfl)<|qv rfl (aB rfl)<|qv rfl (vO oY rfl (by omega) (by omega))<|qv rfl (eR (wQ Tryz.underlying9 rfl rfl (by omega) (show rL[_]? = _ from(kU (by omega) (by omega)).1)) (congrArg (Value.int .u8) (kU (by omega) (by omega)).2.symm))<|qv rfl (tR nL rfl (vJ _) (vZ (by omega) (by omega)))<|qv rfl (kY rfl rfl (vQ _ (by decide)) (vX (by omega) (by omega) (by decide)))<|qv rfl (fJ rfl)<|aQ<|aG<|⟨_,_,rfl,qW rfl rfl,?_⟩;refine⟨congrArg (Value.int .i64) ?_,(Gr.refl w)⟩;have e0:lg (a:Int)=lg ((a:Int) / 65536)+16:=oR (a:Int) 16 65536 (by decide) (by omega);omega
 replace h5:=of_decide_eq_false h5;refine qu<|aY<|qs 2 rfl<|qv rfl (aB rfl)<|qv rfl (gF rfl rfl)<|aQ<|lX rfl (fun h7=>?_) (fun h7=>?_)
 · -- h7 True
   replace h7:=of_decide_eq_true h7;refine qs 3 rfl<|qv rfl (aB rfl)<|qv rfl (zU (n:=8) (m:=256) rfl rfl rfl (by decide))<|qv rfl (fJ rfl)<|aQ<|qg 3 rfl<|qv rfl (aB rfl)<|qv rfl (kY rfl rfl (by omega) (by omega))<|qv rfl (fJ rfl)<|qd 7 rfl<|qv rfl (aB rfl)<|qv rfl (aB rfl)<|qv rfl (vO oY rfl (by omega) (by omega))<|qv rfl (eR (wQ Tryz.underlying9 rfl rfl (by omega) (show rL[_]? = _ from(kU (by omega) (by omega)).1)) (congrArg (Value.int .u8) (kU (by omega) (by omega)).2.symm))<|qv rfl (tR nL rfl (vJ _) (vZ (by omega) (by omega)))<|qv rfl (kY rfl rfl (vQ _ (by decide)) (vX (by omega) (by omega) (by decide)))<|qv rfl (fJ rfl)<|aQ<|aG<|⟨_,_,rfl,qW rfl rfl,?_⟩;refine⟨congrArg (Value.int .i64) ?_,(Gr.refl w)⟩;have e0:lg (a:Int)=lg ((a:Int) / 256)+8:=oR (a:Int) 8 256 (by decide) (by omega);omega
 replace h7:=of_decide_eq_false h7;refine qu<|qs 7 rfl<|qv rfl (aB rfl)<|qv rfl (aB rfl)<|qv rfl (vO oY rfl (by omega) (by omega))<|qv rfl (eR (wQ Tryz.underlying9 rfl rfl (by omega) (show rL[_]? = _ from(kU (by omega) (by omega)).1)) (congrArg (Value.int .u8) (kU (by omega) (by omega)).2.symm))<|qv rfl (tR nL rfl (vJ _) (vZ (by omega) (by omega)))<|qv rfl (kY rfl rfl (vQ _ (by decide)) (vX (by omega) (by omega) (by decide)))<|qv rfl (fJ rfl)<|aQ<|aG<|⟨_,_,rfl,qW rfl rfl,?_⟩;refine⟨congrArg (Value.int .i64) ?_,(Gr.refl w)⟩;omega
set_option maxHeartbeats 1000000 in
theorem Qqf (a:Int)(ha1:0≤a)(ha2:a<18446744073709551616)(w:World):
 Calls Tryz.prog 351 [.int .u64 a].toArray w fun e w'=>∃ v,e=.returned v∧(v=.int .i64 (lg a)∧Gr w w'):=by
 refine bP 8 Tryz.func351 rfl rfl rfl<|qs 1 rfl<|qv rfl (fJ rfl)<|aQ<|aY<|mS rfl<|qu<|qs 3 rfl<|qv rfl (aB rfl)<|qe rfl (kX Qnb rfl (Qqd _ (by omega) (by omega) _)) ?_;rintro _ w1 ⟨rfl,Gw1⟩;have z1:=Gw1.size;refine qv rfl (fJ rfl)<|aQ<|aG ?_;have X2:=(Gr.trans (Gr.refl w) Gw1);refine⟨_,_,rfl,qW rfl rfl,?_⟩;exact⟨rfl,X2⟩
end Go.Proofs.YtplcaaglieefgaaGreat

end
section
namespace Go.Sx
open Go Go.RowKit Go.Proofs Go.Sort Go.Shelf
def Np (k:Nat)(xs:List (List Value)):Prop:=∀ y∈xs,y.length=k
theorem Qwg {β:Type}[Inhabited β](enc:β→List Value)(k:Nat)(hk:1≤k)(hc:∀ b,(enc b).length=k)(w:World)(g n:Nat)(d:Array β)(os:Array Obj)(e:TypeId)(cur:Array Value)(hb:w.heap[g]? = some (.cells cur e (0,0)))(hl:d.size*k≤cur.size):
 ∃ cur':Array Value,(sortWorldK enc k w g 0 n d os).heap[g]? = some (.cells cur' e (0,0))∧cur'.size=cur.size∧cur'.toList.take (d.size*k)=(d.toList.map enc).flatten∧Kz [(1,g)] w (sortWorldK enc k w g 0 n d os):=by
 have cP:g<w.heap.size:=(Array.getElem?_eq_some_iff.1 hb).1;have hh:(sortWorldK enc k w g 0 n d os).heap=(w.heap.modify g (onCells (putCells id 0 (flatK enc k d))))++os:=rfl;refine⟨putCells id 0 (flatK enc k d) cur,?_,by simp[putCells],?_,?_⟩
 · rw[hh,Array.getElem?_append_left (by simpa using cP),Array.getElem?_modify,if_pos rfl,hb];rfl
 · apply List.ext_getElem?;intro t;rw[List.getElem?_take]
   have hfl:((d.toList.map enc).flatten).length=d.size*k:=by
    have:Np k (d.toList.map enc):=by
     intro y hy;obtain⟨b,_,rfl⟩:=List.mem_map.1 hy;exact hc b
    have h2:∀ (xs:List (List Value)),Np k xs→xs.flatten.length=xs.length*k:=by
     intro xs
     induction xs with
     | nil=>intro _;simp
     | cons a xs ih=>intro h;rw[List.flatten_cons,List.length_append,ih (fun y hy=>h y (List.mem_cons_of_mem _ hy)),h a (by simp),List.length_cons,Nat.add_mul];omega
    rw[h2 _ this];simp
   by_cases ht:t<d.size*k
   · rw[if_pos ht];have htc:t<cur.size:=by omega
     have h3:(putCells id 0 (flatK enc k d) cur).toList[t]? = some ((flatK enc k d)[t]!):=by
      simp only[putCells,Array.getElem?_toList,Array.getElem?_mapIdx,Array.getElem?_eq_getElem htc,Option.map_some,Nat.zero_le,true_and,Nat.zero_add,size_flatK,ht,if_true,Nat.sub_zero,id]
     rw[h3,get_flatK enc k d t ht];have hq:t / k<d.size:=(Nat.div_lt_iff_lt_mul (by omega)).2 ht;have hm:t%k<k:=Nat.mod_lt _ (by omega)
     have hgen:∀ (xs:List (List Value)),Np k xs→∀ i j c,xs[i]? = some c→j<k→xs.flatten[i*k+j]? = c[j]? := by
      intro xs
      induction xs with
      | nil=>intro _ i j c h;simp at h
      | cons a xs ih=>
       intro hw i j c h hj;have ha:=hw a (by simp);rw[List.flatten_cons]
       cases i with
       | zero=>simp at h;subst h;rw[Nat.zero_mul,Nat.zero_add,List.getElem?_append_left (by omega)]
       | succ i=>
        rw[List.getElem?_append_right (by rw[ha,Nat.add_mul];omega),show(i+1)*k+j-a.length=i*k+j from by rw[ha,Nat.add_mul];omega];exact ih (fun y hy=>hw y (List.mem_cons_of_mem _ hy)) i j c (by simpa using h) hj
     have h4:=hgen (d.toList.map enc) (fun y hy=>by obtain⟨b,_,rfl⟩:=List.mem_map.1 hy;exact hc b) (t / k) (t%k) (enc d[t / k]!) (by simp[hq]) hm;have hdm:t / k*k+t%k=t:=by rw[Nat.mul_comm];exact Nat.div_add_mod t k
     rw[hdm] at h4;rw[h4];have h5:t%k<(enc d[t / k]!).length:=by rw[hc];exact hm
     simp[h5]
   · rw[if_neg ht,List.getElem?_eq_none (by omega)]
 · refine⟨rfl,rfl,rfl,by rw[hh];simp,fun i hi hn=>?_⟩
   have hne:g≠i:=by
    simp only[cC] at hn;rcases hn.1 with h|h
    · omega
    · exact fun e=>h e.symm
   rw[hh,Array.getElem?_append_left (by simpa using hi),Array.getElem?_modify,if_neg hne]
section
variable {P:Program} {ρ:Ren}
theorem Qwh {β:Type}(c:β→List Value)(k:Nat)(hc:∀ b,(c b).length=k)(h1:∀ b,bI (c b)=true)(hk:1≤k)(key:β→Int)(cf:Nat)(L:SlLaysF0.n6 P ρ)(aE:∀ w,(isAgg (ρ.t 24)).run P w=.ok true w)(zE:∀ w,(Go.sizeOf (ρ.t 24)).run P w=.ok k w)
 (eg:∀ args w,(callFunc cf args).run P w=.ok (.enter cf args) w)
 (hcmp:∀ (x y:β) (W:World),0≤key x∧key x<4611686018427387904→0≤key y∧key y<4611686018427387904→Calls P cf #[.agg (c x).toArray,.agg (c y).toArray] W fun e w'=>e=.returned (.int .i64 (key x-key y))∧∃ q os',w'=grow (W.drewN q) os')
 {l m:List β} (hm:zS key l=some m) (w:World) (z g:Nat) (e:TypeId) (v:Value) (h:aT w z g e k v (l.map c)):
 Calls P (ρ.f 6) #[v,.func (.func cf) #[] #[]] w fun e' w'=>∃ v',e'=.returned v'∧(aT w' z g e k v (m.map c)∧Kz [(z,g)] w w'):=by
 obtain⟨rfl,hbd,hnd,hlen⟩:=Qwk hm;rcases h.2 with⟨hz,rfl,h0⟩|⟨hz,cap,cur,rfl,hb,hn,hcap,hsz,htk⟩
 · have hl0:l=[]:=by simpa using h0
   subst hl0;refine(AnyF.slices_SortFunc_none L none 0 (.func (.func cf) #[] #[]) w).mono ?_;rintro e' w' ⟨rfl,rfl⟩;exact⟨_,rfl,by simpa using h,Kz.refl _ _⟩
 · by_cases hl0:l=[]
   · subst hl0;have:(([]:List β).map c).length=0:=rfl;rw[this];refine(AnyF.slices_SortFunc_none L (some ⟨g,0,none⟩) cap (.func (.func cf) #[] #[]) w).mono ?_;rintro e' w' ⟨rfl,rfl⟩;exact⟨_,rfl,by simpa using h,Kz.refl _ _⟩
   · obtain⟨b0,hb0⟩:=List.exists_mem_of_ne_nil l hl0
     let A:={ x:β // x∈l }
     letI:Inhabited A:=⟨⟨b0,hb0⟩⟩
     let enc:A→List Value:=fun x=>c x.1
     let d:Array A:=l.attach.toArray
     let cfn:A→A→Int:=fun x y=>key x.1-key y.1
     have hds:d.size=l.length:=by show l.attach.toArray.size=l.length;simp
     have cP:∀ x y:A,ltOf cfn x y=decide (key x.1<key y.1):=fun x y=>by
      unfold ltOf;apply decide_eq_decide.2;show key x.1-key y.1<0↔_;omega
     have hO:SWO (ltOf cfn):=⟨fun x=>by rw[cP];simp,fun x y z h1 h2=>by rw[cP] at *;simp at *;omega,fun x y z h1 h2=>by rw[cP] at *;simp at *;omega⟩
     have hT:∀ x y:A,ltOf cfn x y=false→ltOf cfn y x=false→x=y:=fun x y h1 h2=>by
      rw[cP] at h1 h2;simp at h1 h2;have he:key x.1=key y.1:=by omega
      apply Subtype.ext;obtain⟨i,hi,ei⟩:=List.mem_iff_getElem.1 x.2;obtain⟨j,hj,ej⟩:=List.mem_iff_getElem.1 y.2;have hij:i=j:=(List.getElem_inj (h₀:=by simpa using hi) (h₁:=by simpa using hj) hnd).1 (by rw[List.getElem_map,List.getElem_map,ei,ej];exact he);subst hij;rw[←ei,←ej]
     have hmk:d.toList.map enc=l.map c:=by
      show l.attach.toArray.toList.map (fun x:A=>c x.1)=l.map c;show List.map (fun x:{ x:β // x∈l }=>c x.1) l.attach=l.map c;exact List.attach_map_val
     rw[List.length_map] at hn htk;have hle:d.size*k≤cur.size:=by rw[hds,hsz];exact Nat.mul_le_mul_right _ hn
     have hH:HoldsK enc k w g 0 d:=by
      intro j hj;rw[size_flatK] at hj;rw[get_flatK enc k d j hj];have hq:j / k<d.size:=(Nat.div_lt_iff_lt_mul (by omega)).2 hj;have hm':j%k<k:=Nat.mod_lt _ (by omega);have hcell:w.cell? ⟨g,0+j,none⟩=cur[j]? := by rw[Nat.zero_add,cell_of_row w g j _ e _ hb]
      have hws:Ws k (l.map c):=h.1;have hat:=hws.at (j / k) (j%k) (c (l[j / k]'(by omega))) (by simp[show j / k<l.length by omega]) hm';have hdm:j / k*k+j%k=j:=by rw[Nat.mul_comm];exact Nat.div_add_mod j k
      rw[hdm,←htk,List.getElem?_take,if_pos (by rw[hds] at hj;exact hj),Array.getElem?_toList] at hat
      have hdj:enc d[j / k]! = c (l[j / k]'(by omega)):=by
       have:d[j / k]! = ⟨l[j / k]'(by omega),List.getElem_mem _⟩:=by
        have hjl:j / k<d.size:=hq;rw[getElem!_pos d (j / k) hjl];show(l.attach.toArray)[j / k]'(by simpa using(show j / k<l.length by omega))=_;simp
       rw[this]
      refine⟨?_,?_⟩
      · rw[hcell,hat,hdj];have h5:j%k<(c (l[j / k]'(by omega))).length:=by rw[hc];exact hm'
        simp[h5]
      · simp[World.frozen?,hb]
     have hcl:CmpLays P cf #[] enc k cfn g 0 d.size w:=fun mm os dk hs x y=>by
      have:=hcmp x.1 y.1 (sortWorldK enc k w g 0 mm dk os) (hbd _ x.2) (hbd _ y.2);simpa[enc,cfn] using this
     have hone:∀ x:A,∀ u∈enc x,u.oneCell'=true:=fun x u hu=>by
      have hws:Ws k (l.map c):=h.1;exact hws.one u (List.mem_flatten.2 ⟨c x.1,List.mem_map.2 ⟨x.1,x.2,rfl⟩,hu⟩)
     have:=AnyQ.slices_SortFunc_total L k aE zE enc (fun x=>hc x.1) hone cfn hO cf #[] g 0 cap d w eg hcl hH (Array.getElem?_eq_some_iff.1 hb).1 (by omega) hT;rw[hds] at this;rw[List.length_map];refine this.mono ?_;rintro e' w' ⟨rfl,n,os,rfl⟩
     have hms:(d.toList.mergeSort fun x y => !(ltOf cfn) y x).map enc=(l.mergeSort fun a b=>decide (key a≤key b)).map c:=by
      have e1:(d.toList.mergeSort fun x y => !(ltOf cfn) y x).map Subtype.val=(l.mergeSort fun a b=>decide (key a≤key b)):=by
       rw[List.map_mergeSort (s:=fun a b=>decide (key a≤key b)) (fun a _ b _=>by rw[cP];by_cases hh:key b.1<key a.1<;>simp[hh]<;>omega)];congr 1;show List.map Subtype.val l.attach=l;simp
      rw[←e1,List.map_map];rfl
     have hsl:(d.toList.mergeSort fun x y => !(ltOf cfn) y x).toArray.size=l.length:=by rw[List.size_toArray,List.length_mergeSort];exact hds
     obtain⟨cur',q1,q2,q3,q4⟩:=Qwg enc k hk (fun x=>hc x.1) w g n (d.toList.mergeSort fun x y => !(ltOf cfn) y x).toArray os e cur hb (by rw[hsl,←hds];exact hle);rw[hsl,List.toList_toArray,hms] at q3;refine⟨_,rfl,⟨?_,.inr ⟨hz,cap,cur',?_,q1,?_,?_,?_,?_⟩⟩,by rw[hz];exact q4⟩
     · exact Qi3 fun x _=>⟨hc x,h1 x⟩
     · rw[List.length_map,List.length_mergeSort]
     · rw[List.length_map,List.length_mergeSort];exact hn
     · exact hcap
     · rw[q2];exact hsz
     · rw[List.length_map,List.length_mergeSort];exact q3
end
end Go.Sx

end
section
namespace Go.Proofs.YtplcaaglieefgaaGreat.Mx
open Go Go.RowKit Go.Sx Go.Proofs Go.Shelf Go.Lib Go.Sort
def Qdx:Go.Shelf.Ren:=⟨fun|6=>298|15=>351|14=>350|28=>383|29=>384|20=>375|21=>376|22=>377|23=>378|24=>379|25=>380|26=>381|27=>382|46=>390|47=>391|48=>392|49=>393|50=>394|57=>403|n=>n,fun|22=>252|24=>193|25=>379|3=>3|39=>177|0=>0|53=>148|55=>22|4=>4|46=>437|45=>436|50=>179|5=>5|9=>9|66=>450|70=>239|76=>461|77=>204|n=>n,fun|n=>n⟩
theorem Qq8:Go.Proofs.SlLaysF0.n6 Tryz.prog Qdx:={
 mixed:=by kernel_rfl
 f6:=⟨Tryz.f298.name,by decide,Tryz.func298.trans (congrArg some (by kernel_rfl))⟩
 f14:=⟨Tryz.f350.name,by decide,Tryz.func350.trans (congrArg some (by kernel_rfl))⟩
 f15:=Tryz.func351.trans (congrArg some (by kernel_rfl))
 f20:=⟨Tryz.f375.name,by decide,Tryz.func375.trans (congrArg some (by kernel_rfl))⟩
 f21:=⟨Tryz.f376.name,by decide,Tryz.func376.trans (congrArg some (by kernel_rfl))⟩
 f22:=⟨Tryz.f377.name,by decide,Tryz.func377.trans (congrArg some (by kernel_rfl))⟩
 f23:=⟨Tryz.f378.name,by decide,Tryz.func378.trans (congrArg some (by kernel_rfl))⟩
 f24:=⟨Tryz.f379.name,by decide,Tryz.func379.trans (congrArg some (by kernel_rfl))⟩
 f25:=⟨Tryz.f380.name,by decide,Tryz.func380.trans (congrArg some (by kernel_rfl))⟩
 f26:=⟨Tryz.f381.name,by decide,Tryz.func381.trans (congrArg some (by kernel_rfl))⟩
 f27:=⟨Tryz.f382.name,by decide,Tryz.func382.trans (congrArg some (by kernel_rfl))⟩
 f28:=Tryz.func383.trans (congrArg some (by kernel_rfl))
 f29:=Tryz.func384.trans (congrArg some (by kernel_rfl))
 f46:=⟨Tryz.f390.name,by decide,Tryz.func390.trans (congrArg some (by kernel_rfl))⟩
 f47:=Tryz.func391.trans (congrArg some (by kernel_rfl))
 f48:=Tryz.func392.trans (congrArg some (by kernel_rfl))
 f49:=⟨Tryz.f393.name,by decide,Tryz.func393.trans (congrArg some (by kernel_rfl))⟩
 f50:=⟨Tryz.f394.name,by decide,Tryz.func394.trans (congrArg some (by kernel_rfl))⟩
 f57:=⟨Tryz.f403.name,by decide,Tryz.func403.trans (congrArg some (by kernel_rfl))⟩
 t0:=Tryz.underlying0
 a0:=Tryz.isAgg0
 z0:=Tryz.sizeOf0
 v0:=Tryz.zeroValue0
 t3:=Tryz.underlying3
 a3:=Tryz.isAgg3
 z3:=Tryz.sizeOf3
 v3:=Tryz.zeroValue3
 t4:=Tryz.underlying4
 a4:=Tryz.isAgg4
 z4:=Tryz.sizeOf4
 v4:=Tryz.zeroValue4
 t5:=Tryz.underlying5
 a5:=Tryz.isAgg5
 z5:=Tryz.sizeOf5
 v5:=Tryz.zeroValue5
 t9:=Tryz.underlying9
 a9:=Tryz.isAgg9
 z9:=Tryz.sizeOf9
 v9:=Tryz.zeroValue9
 t22:=Tryz.underlying252
 a22:=Tryz.isAgg252
 z22:=Tryz.sizeOf252
 v22:=Tryz.zeroValue252
 t25:=Tryz.underlying379
 a25:=Tryz.isAgg379
 z25:=Tryz.sizeOf379
 v25:=Tryz.zeroValue379
 t39:=Tryz.underlying177
 a39:=Tryz.isAgg177
 z39:=Tryz.sizeOf177
 v39:=Tryz.zeroValue177
 t45:=Tryz.underlying436
 a45:=Tryz.isAgg436
 z45:=Tryz.sizeOf436
 v45:=Tryz.zeroValue436
 t46:=Tryz.underlying437
 a46:=Tryz.isAgg437
 z46:=Tryz.sizeOf437
 v46:=Tryz.zeroValue437
 t50:=Tryz.underlying179
 a50:=Tryz.isAgg179
 z50:=Tryz.sizeOf179
 v50:=Tryz.zeroValue179
 t53:=Tryz.underlying148
 a53:=Tryz.isAgg148
 z53:=Tryz.sizeOf148
 v53:=Tryz.zeroValue148
 t55:=Tryz.underlying22
 a55:=Tryz.isAgg22
 z55:=Tryz.sizeOf22
 v55:=Tryz.zeroValue22
 t66:=Tryz.underlying450
 a66:=Tryz.isAgg450
 z66:=Tryz.sizeOf450
 v66:=Tryz.zeroValue450
 t70:=Tryz.underlying239
 a70:=Tryz.isAgg239
 z70:=Tryz.sizeOf239
 v70:=Tryz.zeroValue239
 t76:=Tryz.underlying461
 a76:=Tryz.isAgg461
 z76:=Tryz.sizeOf461
 v76:=Tryz.zeroValue461
 t77:=Tryz.underlying204
 a77:=Tryz.isAgg204
 z77:=Tryz.sizeOf204
 v77:=Tryz.zeroValue204 }
theorem Qyx {a b:Int}(ha:0≤a∧a<4611686018427387904)(hb:0≤b∧b<4611686018427387904):IntKind.i64.wrap (a-b)=a-b:=by rw[IntKind.wrap_i64];omega
set_option maxHeartbeats 1000000 in
theorem Qk1 (x y:bZ)(W:World)(hx:0≤x.Node∧x.Node<4611686018427387904)(hy:0≤y.Node∧y.Node<4611686018427387904):Calls Tryz.prog 299 #[.agg #[.int .i64 x.Node,.int .i64 x.Minus],.agg #[.int .i64 y.Node,.int .i64 y.Minus]] W fun e w'=>e=.returned (.int .i64 (x.Node-y.Node))∧∃ q os',w'=grow (W.drewN q) os':=by
 have hw:=Qyx hx hy
 go_enter Tryz.func299,Tryz.ntmps299
 go_wp2
 go_ret
 exact⟨rfl,0,_,by rw[alloc_eq_grow,alloc_eq_grow,grow_grow];rfl⟩
theorem Qwf {l m:List bZ}(hm:zS bZ.Node l=some m)(w:World)(z g:Nat)(v:Value)(h:aT w z g 193 2 v (l.map bZ.cs)):Calls Tryz.prog 298 [v,.func (.func 299) #[] #[]].toArray w fun e' w'=>∃ v',e'=.returned v'∧(aT w' z g 193 2 v (m.map bZ.cs)∧Kz [(z,g)] w w'):=
 Qwh (ρ:=Qdx) bZ.cs 2 (fun _=>rfl) (fun x=>bZ.cs_ones x) (by decide) bZ.Node 299 Qq8 (fun _=>by kernel_rfl) (fun _=>by kernel_rfl) (fun _ _=>by kernel_rfl) (fun x y W hx hy=>Qk1 x y W hx hy) hm w z g 193 v h
end Go.Proofs.YtplcaaglieefgaaGreat.Mx

end
section
namespace Go.Sx
open Go Go.RowKit
section
variable {P:Program} {L:Slots} {w:World} {dst:Option Nat} {ty:TypeId} {pos:String} {af:Array Edge} {gu:Option (Nat × Bool)} {x y p q r:Operand} {t e:TypeId} {v:Value} {z g o sz:Nat} {α:Type} {l m:List α} {c:α→List Value} {lo hi:Int} {kl kh km:IntKind}
theorem Ek {ρ:Operand→Value}{a:Option Addr}{len cap:Nat}(hρ:oQ L ρ)(hu:P.underlying t=some (.slice e))(hs:gQ P e sz)(hp:ev L p=some (.int kl lo))(hq:ev L q=some (.int kh hi))(hm:ev L r=some (.int km hi))(h0:0≤lo)(h1:lo≤hi)(h2:hi≤(cap:Int)):
 (Instr.sliceAt t (.slice a len cap) (some (ρ p)) (some (ρ q)) (some (ρ r))).run P w=.ok (sliced a lo.toNat hi.toNat hi.toNat sz) w:=by
 have he:P.elem t=e:=by simp[Program.elem,hu]
 have hu':P.underlying t=some (.slice (P.elem t)):=by rw[he];exact hu
 rw[run_sliceAt_slice _ _ _ _ _ _ hu',hρ _ _ hp,hρ _ _ hq,hρ _ _ hm,run_slice_lhm _ _ _ _ _ hu' _ _ _ _ _ _ h0 h1 (by omega) h2,he,hs w];simp[Result.andThen]
theorem Gu (hu:P.underlying t=some (.slice e))(hs:gQ P e sz)(hx:ev L x=some v)(hr:Rd w z g o sz v (l.map c))(hp:ev L p=some (.int kl lo))(hq:ev L q=some (.int kh hi))(hmx:ev L r=some (.int km hi))(hl:nH l lo hi=some m):
 ∃ v' o',(∀ w1,VV P L ⟨dst,.slice t x (some p) (some q) (some r),ty,pos,af,gu⟩ w1 v')∧Rd w z g o' sz v' (m.map c):=by
 obtain⟨rfl,h3,h4,h5⟩:=Qgh hl;rcases hr.2 with⟨hz,hnil,a,cap,rfl⟩|⟨hz,cap,rfl,⟨hg,hcap⟩,hcell⟩
 · have hl0:l=[]:=by simpa using hnil
   subst hl0;simp only[List.length_nil] at h5;have e1:lo=0:=by omega
   have e2:hi=0:=by omega
   subst e1 e2;refine⟨_,0,fun w1 ρ hρ=>kO (by rw[hρ _ _ hx];exact Ek hρ hu hs hp hq hmx (by omega) (by omega) (by omega)),by simpa using hr.1,.inl ⟨hz,by simp,?_⟩⟩;exact⟨_,_,rfl⟩
 · rw[List.length_map] at hcap hx;have hlen:((l.map c).take hi.toNat).length=hi.toNat:=by rw[List.length_take,List.length_map];omega
   have hm:(((l.take hi.toNat).drop lo.toNat).map c)=((l.map c).take hi.toNat).drop lo.toNat:=by rw[List.map_drop,List.map_take]
   have hml:(((l.take hi.toNat).drop lo.toNat).map c).length=hi.toNat-lo.toNat:=by rw[hm,List.length_drop,hlen]
   refine⟨_,if hi.toNat=lo.toNat then o else o+lo.toNat*sz,fun w1 ρ hρ=>kO (by rw[hρ _ _ hx];exact Ek hρ hu hs hp hq hmx h3 h4 (by omega)),by rw[hm];exact hr.1.take.drop,.inr ⟨hz,hi.toNat-lo.toNat,?_,⟨hg,by rw[hml];omega⟩,fun j u hj=>?_⟩⟩
   · simp only[sliced,hml];by_cases e:hi.toNat=lo.toNat
     · rw[if_pos e,if_pos e]
     · rw[if_neg e,if_neg e];simp[Addr.add_lit]
   · rw[hm,Ym _ _ hr.1.take,Yn _ _ hr.1,List.getElem?_drop] at hj
     have hj2:(l.map c).flatten[lo.toNat*sz+j]? = some u:=by
      rw[List.getElem?_take] at hj
      split at hj
      · exact hj
      · cases hj
     by_cases e:hi.toNat=lo.toNat
     · exfalso;rw[List.getElem?_take,e] at hj
       split at hj
       · omega
       · cases hj
     · rw[if_neg e,Nat.add_assoc];exact hcell _ _ hj2
theorem Gv {n:Nat}(hu:P.underlying t=some (.slice e))(hs:gQ P e sz)(hx:ev L x=some v)(h:aT w z g e sz v (l.map c))(hp:ev L p=some (.int kl lo))(hq:ev L q=some (.int kh hi))(hm:ev L r=some (.int km hi))(hl:vA l lo hi=some n):
 VV P L ⟨dst,.slice t x (some p) (some q) (some r),ty,pos,af,gu⟩ w (.slice (some ⟨g,lo.toNat*sz,none⟩) n n):=fun ρ hρ=>by
 unfold vA at hl
 split at hl
 · rename_i hh;obtain⟨h0,h1,h2⟩:=hh;cases hl;rcases h.2 with⟨_,_,h0'⟩|⟨hz,cap,cur,rfl,h1',h2',h3⟩
   · have:l=[]:=by simpa using h0'
     subst this;simp at h2;omega
   · rw[List.length_map] at h2';refine kO ?_;rw[hρ _ _ hx];show(Instr.sliceAt t (.slice (some ⟨g,0,none⟩) _ cap) (some (ρ p)) (some (ρ q)) (some (ρ r))).run P w=_;rw[Ek hρ hu hs hp hq hm h0 (by omega) (by omega)];simp only[sliced];rw[if_neg (by omega)];simp[Addr.add_lit];omega
 · cases hl
theorem mJ {n:Nat}{i j:Int}{k:IntKind}{v:Value}(hv:v=.slice (some ⟨g,lo.toNat*sz,none⟩) n n)(h0:0≤lo)(hu:P.underlying t=some (.slice e))(hs:gQ P e sz)(hx:ev L x=some v)(hy:ev L y=some (.int k i))(hj:kC lo n i=some j):
 VV P L ⟨dst,.indexAddr t x y,ty,pos,af,gu⟩ w (.pointer (some ⟨g,0+j.toNat*sz,none⟩)):=by
 unfold kC at hj
 split at hj
 · rename_i hh;cases hj;subst hv;have:=Qhs (dst:=dst) (ty:=ty) (pos:=pos) (af:=af) (gu:=gu) (w:=w) hu hs hx hy hh.1 hh.2;have e:lo.toNat*sz+i.toNat*sz=0+(lo+i).toNat*sz:=by rw[←Nat.add_mul,Int.toNat_add h0 hh.1];omega
   rwa[e] at this
 · cases hj
theorem mZ {n:Nat}(hl:vA l lo hi=some n):0≤lo:=by
 unfold vA at hl;split at hl
 · rename_i hh;exact hh.1
 · cases hl
theorem pV {len b' off:Nat}{i:Int}{k:IntKind}(j:Nat)(hu:P.underlying t=some (.array len e))(hs:gQ P e sz)(hx:ev L x=some (.pointer (some ⟨b',off,none⟩)))(hy:ev L y=some (.int k i))(h:i=(j:Int))(hj:j<len):
 VV P L ⟨dst,.indexAddr t x y,ty,pos,af,gu⟩ w (.pointer (some ⟨b',off+j*sz,none⟩)):=by
 have:=tB (dst:=dst) (ty:=ty) (pos:=pos) (af:=af) (gu:=gu) (w:=w) hu hs hx hy (by omega) (by omega);rwa[show i.toNat=j from by omega] at this
theorem Qyg {len:Nat}{i:Int}{k:IntKind}{a:α}{u:Value}{cs:List Value}(hu:P.underlying t=some (.array len e))(hs:gQ P e 1)(h1:eI P e)(hx:ev L x=some (.agg cs.toArray))(hcs:cs=(l.map c).flatten)(hl:l.length=len)(hw:Ws 1 (l.map c))(hy:ev L y=some (.int k i))(hg:bG l i=some a)(hc:c a=[u]):
 VV P L ⟨dst,.index t x y,ty,pos,af,gu⟩ w u:=fun ρ hρ=>by
 have h0:=oL hg;have h2:=P7 hg;have h2':i<(len:Int):=by omega
 have hp:(part e cs.toArray (i.toNat*1)).run P w=.ok u w:=by
  have hq:cs[i.toNat]? = some u:=by
   have:=Ws.at (sz:=1) i.toNat 0 (c a) hw (oS (pO hg)) (by omega);rw[hcs];rw[hc] at this;simpa using this
  have hq2:cs.toArray[i.toNat]? = some u:=by simpa using hq
  simp[part,(h1 w).1,hq2]
 rw[Nat.mul_one] at hp;refine kO ?_;rw[hρ _ _ hx,hρ _ _ hy];simp[Instr.index,run_underlying hu,asIntOf,h0,h2',hs w,hp]
end
end Go.Sx

end
section
namespace Go.Sx
open Go
end Go.Sx

end
section
namespace Go.Sx
open Go Go.RowKit
section
variable {P:Program} {L:Slots} {w:World} {dst:Option Nat} {ty:TypeId} {pos:String} {af:Array Edge} {gu:Option (Nat × Bool)} {x y:Operand} {t u:TypeId} {b:Int}
theorem Qyu {yk:IntKind}{n:Nat}{p:BitVec 8}(hx:ev L x=some (bv p))(hy:ev L y=some (.int yk b))(h:eK b=some n):VV P L ⟨dst,.binOp .shr t x y u,ty,pos,af,gu⟩ w (bv (p >>> n)):=by
 obtain⟨h1,rfl⟩:=Zk h;refine eR (Gq hx hy h1) ?_;show Value.int .u8 (aC p / 2^min b.toNat 8)=Value.int .u8 (aC (p >>> b.toNat));refine congrArg (Value.int .u8) ?_;unfold aC;rw[BitVec.toNat_ushiftRight,Nat.shiftRight_eq_div_pow];rcases Nat.le_total b.toNat 8 with h|h
 · rw[Nat.min_eq_left h];norm_cast
 · rw[Nat.min_eq_right h];have h2:p.toNat / 2^b.toNat=0:=Nat.div_eq_of_lt (Nat.lt_of_lt_of_le p.isLt (Nat.pow_le_pow_right (by omega) h));have h3:p.toNat / 2^8=0:=Nat.div_eq_of_lt p.isLt;rw[h2,←h3];norm_cast
def pe (g o sz:Nat)(r:Int):Value:=if r<0 then .pointer none else .pointer (some ⟨g,o+r.toNat*sz+0,none⟩)
theorem Qsx (g o sz:Nat):Value.pointer none=pe g o sz (-1):=rfl
theorem Qsw {g o sz:Nat}{r:Int}(h:0≤r):Value.pointer (some ⟨g,o+r.toNat*sz+0,none⟩)=pe g o sz r:=by unfold pe;rw[if_neg (by omega)]
section
variable {e:TypeId} {g o sz n:Nat} {i j r:Int} {α:Type} {l m:List α} {a c:α} {A:Addr}
theorem Qvf (d:Nat)(hu:P.underlying t=some (.pointer e))(a:Option Addr):(Op.equalIn (d+1) t (.pointer none) (.pointer a)).run P w=.ok a.isNone w:=by
 simp[Op.equalIn,run_underlying hu]
theorem Qve (hu:P.underlying t=some (.pointer e))(a:Option Addr):(Op.equal t (.pointer none) (.pointer a)).run P w=.ok a.isNone w:=Qvf 9999 hu a
theorem Qvh (d:Nat)(hu:P.underlying t=some (.pointer e))(hs:gQ P e n)(hn:n≠0)(p q:Nat):(Op.equalIn (d+1) t (.pointer (some ⟨g,p,none⟩)) (.pointer (some ⟨g,q,none⟩))).run P w=.ok (decide (p=q)) w:=by
 have e1:((⟨g,p,none⟩:Addr) == ⟨g,q,none⟩)=decide (p=q):=by
  by_cases h:p=q
  · subst h;simp
  · rw[decide_eq_false h];exact beq_false_of_ne (fun hh=>h (by injection hh))
 simp[Op.equalIn,run_underlying hu,hs w,hn,sameAddr,e1]
theorem Qvg (hu:P.underlying t=some (.pointer e))(hs:gQ P e n)(hn:n≠0)(p q:Nat):(Op.equal t (.pointer (some ⟨g,p,none⟩)) (.pointer (some ⟨g,q,none⟩))).run P w=.ok (decide (p=q)) w:=Qvh 9999 hu hs hn p q
theorem Qyo (hu:P.underlying t=some (.pointer e))(hx:ev L x=some (.pointer none))(hy:ev L y=some (.pointer (some A))):VV P L ⟨dst,.binOp .neq t x y u,ty,pos,af,gu⟩ w (.bool true):=fun ρ hρ=>by
 simp[execOp,hρ _ _ hx,hρ _ _ hy,go_sem,binOp,Qve hu]
theorem Ql3 (hz:sz≠0)(hi:0≤i)(hj:0≤j):(o+i.toNat*sz+0=o+j.toNat*sz+0)↔i=j:=by
 constructor
 · intro h;have:i.toNat*sz=j.toNat*sz:=by omega
   have:=Nat.eq_of_mul_eq_mul_right (Nat.pos_of_ne_zero hz) this;omega
 · intro h;rw[h]
theorem Qyp {p q:Nat}(hu:P.underlying t=some (.pointer e))(hs:gQ P e sz)(hx:ev L x=some (.pointer (some ⟨g,p,none⟩)))(hy:ev L y=some (.pointer (some ⟨g,q,none⟩)))(hz:sz≠0):VV P L ⟨dst,.binOp .neq t x y u,ty,pos,af,gu⟩ w (.bool (!decide (p=q))):=fun ρ hρ=>by
 simp[execOp,hρ _ _ hx,hρ _ _ hy,go_sem,binOp,Qvg hu hs hz]
theorem Qyn (hu:P.underlying t=some (.pointer e))(hs:gQ P e sz)(hx:ev L x=some (pe g o sz r))(hy:ev L y=some (.pointer (some ⟨g,o+j.toNat*sz+0,none⟩)))(hz:sz≠0)(hj:bG l j=some c):VV P L ⟨dst,.binOp .neq t x y u,ty,pos,af,gu⟩ w (.bool (decide (r≠j))):=by
 have h0:=oL hj;by_cases h:r<0
 · rw[decide_eq_true (by omega)];exact Qyo hu (by rw[hx];unfold pe;rw[if_pos h]) hy
 · refine eR (Qyp hu hs (by rw[hx];unfold pe;rw[if_neg h]) hy hz) ?_;rw[←decide_not];exact oW (not_congr (Ql3 hz (by omega) h0))
variable {v:Value} {p q:Operand} {lo hi:Int} {kl kh:IntKind} {cf:α→List Value}
end
end
end Go.Sx

end
section
namespace Go.Sx
open Go Go.RowKit
section
variable {P:Program} {L:Slots} {w:World} {dst:Option Nat} {ty:TypeId} {pos:String} {af:Array Edge} {gu:Option (Nat × Bool)} {x y:Operand} {t u:TypeId} {p q:BitVec 32} {a b:Int} {c d:BitVec 64}
end
end Go.Sx

end
section
namespace Go.Sx
open Go Go.RowKit
abbrev P8 (v:Value):List Value:=[v]
structure oX where
 v:Value
 z:Nat
 g:Nat
 q:List (Value × Nat)
def oX.bl (h:oX):List Nat:=zf h.z h.g++h.q.map Prod.snd
structure Jm (e1 e0:TypeId)(w:World)(h:oX)(l:List (List Int)):Prop where
 own:aT w h.z h.g e1 1 h.v ((h.q.map Prod.fst).map P8)
 len:h.q.length=l.length
 row:∀ (j:Nat) q r,h.q[j]? = some q→l[j]? = some r→aT w 1 q.2 e0 1 q.1 (r.map ic)
structure U0 (e2 e1 e0:TypeId)(w:World)(n0 z g:Nat)(v:Value)(L:List (List (List Int)))(H:List oX):Prop where
 own:aT w z g e2 1 v ((H.map oX.v).map P8)
 len:H.length=L.length
 sub:∀ (i:Nat) h l,H[i]? = some h→L[i]? = some l→Jm e1 e0 w h l
 nd:∀ (i:Nat) h,H[i]? = some h→h.bl.Nodup
 ap:∀ (i j:Nat) h k,i≠j→H[i]? = some h→H[j]? = some k→∀ x∈h.bl,x∉k.bl
 out:∀ (i:Nat) h,H[i]? = some h→∀ x∈h.bl,x≠g∧n0≤x∧x<w.heap.size
 top:z=1∧n0≤g
def mK (e2 e1 e0:TypeId)(w:World)(n0 z g:Nat)(v:Value)(L:List (List (List Int))):Prop:=∃ H,U0 e2 e1 e0 w n0 z g v L H
section
variable {e2 e1 e0:TypeId} {w w':World} {n0 z g:Nat} {v:Value} {L:List (List (List Int))} {H:List oX}
theorem Jm.keep {h:oX}{l:List (List Int)}(a:Jm e1 e0 w h l)(hb:∀ x∈h.bl,x<w.heap.size→w'.heap[x]? = w.heap[x]?):Jm e1 e0 w' h l:=by
 refine⟨a.own.keep ?_,a.len,fun j q r hj hr=>(a.row j q r hj hr).keep (.inr ?_)⟩
 · by_cases hz:h.z=0
   · exact .inl hz
   · exact .inr (hb _ (List.mem_append_left _ (vK.2 ⟨hz,rfl⟩)))
 · exact hb _ (List.mem_append_right _ (List.mem_map.2 ⟨q,List.mem_of_getElem? hj,rfl⟩))
theorem U0.keep (a:U0 e2 e1 e0 w n0 z g v L H)(hs:w.heap.size≤w'.heap.size)(hb:∀ x,n0≤x→x<w.heap.size→w'.heap[x]? = w.heap[x]?):U0 e2 e1 e0 w' n0 z g v L H:=
 ⟨a.own.keep (.inr fun hl=>hb g a.top.2 hl),a.len,fun i h l hi hl=>(a.sub i h l hi hl).keep fun x hx hl2=>hb x (a.out i h hi x hx).2.1 hl2,a.nd,a.ap,fun i h hi x hx=>by
  obtain⟨b1,b2,b3⟩:=a.out i h hi x hx
  exact⟨b1,b2,Nat.lt_of_lt_of_le b3 hs⟩,a.top⟩
theorem mK.gr (a:mK e2 e1 e0 w n0 z g v L)(k:Gr w w'):mK e2 e1 e0 w' n0 z g v L:=by
 obtain⟨H,a⟩:=a;exact⟨H,a.keep k.size fun x _ hl=>k.block x hl⟩
theorem mK.kz (a:mK e2 e1 e0 w n0 z g v L)(k:Kz [] w w'):mK e2 e1 e0 w' n0 z g v L:=by
 obtain⟨H,a⟩:=a;exact⟨H,a.keep k.size fun x _ hl=>k.block x hl trivial⟩
theorem mK.lth (a:mK e2 e1 e0 w n0 z g v L):bN (z=0∨(z=1∧g<w.heap.size)):=by obtain⟨H,a⟩:=a;exact a.own.lth
theorem mK.oneB (a:mK e2 e1 e0 w n0 z g v L):Sx.oneB v=true:=by obtain⟨H,a⟩:=a;exact a.own.oneB
theorem Qoy {i:Int}{l:List (List Int)}(a:U0 e2 e1 e0 w n0 z g v L H)(hi:bG L i=some l):∃ h,H[i.toNat]? = some h∧L[i.toNat]? = some l∧bG (H.map oX.v) i=some h.v:=by
 have h1:=pO hi;have h0:=oL hi;have cP:=(List.getElem?_eq_some_iff.1 h1).1;have hlt2:i.toNat<H.length:=by rw[a.len];exact cP
 exact⟨H[i.toNat],List.getElem?_eq_getElem hlt2,h1,by unfold bG;rw[if_pos h0,List.getElem?_map,List.getElem?_eq_getElem hlt2];rfl⟩
theorem Qr7 {l:List Nat}(h:l.Nodup){i j:Nat}{x:Nat}(hi:l[i]? = some x)(hj:l[j]? = some x):i=j:=by
 obtain⟨a1,a2⟩:=List.getElem?_eq_some_iff.1 hi;obtain⟨b1,b2⟩:=List.getElem?_eq_some_iff.1 hj;exact(List.getElem_inj (h₀:=a1) (h₁:=b1) h).1 (a2.trans b2.symm)
theorem mK.row {i j:Int}{l:List (List Int)}{r:List Int}(a:mK e2 e1 e0 w n0 z g v L)(hi:bG L i=some l)(hj:bG l j=some r):
 ∃ (hs qs:List Value) (vi:Value) (gi:Nat) (u:Value) (b:Nat),Rd w z g 0 1 v (hs.map P8)∧bG hs i=some vi∧Rd w 1 gi 0 1 vi (qs.map P8)∧bG qs j=some u∧aT w 1 b e0 1 u (r.map ic)∧
  bN (1=0∨n0≤b)∧bN (z=0∨1=0∨g≠b)∧bN (1=0∨1=0∨gi≠b)∧bN (1=0∨(1=1∧gi<w.heap.size))∧
  ∀ w' r',w.heap.size≤w'.heap.size→(∀ x,x<w.heap.size→x≠b→w'.heap[x]? = w.heap[x]?)→aT w' 1 b e0 1 u (r'.map ic)→mK e2 e1 e0 w' n0 z g v (L.set i.toNat (l.set j.toNat r')):=by
 obtain⟨H,a⟩:=a;obtain⟨h,hh,hl,hv⟩:=Qoy a hi;have s:=a.sub _ h l hh hl;have k1:=pO hj;have k0:=oL hj;have cP:=(List.getElem?_eq_some_iff.1 k1).1;have hlt2:j.toNat<h.q.length:=by rw[s.len];exact cP
 obtain⟨q,hq⟩:∃ q,h.q[j.toNat]? = some q:=⟨_,List.getElem?_eq_getElem hlt2⟩;have o:=s.row _ q r hq k1
 have hz:h.z=1:=by
  rcases s.own.2 with⟨_,_,h0⟩|⟨h0,_⟩
  · have:(h.q.map Prod.fst).length=0:=by rw[←List.length_map (f:=P8),h0];rfl
    rw[List.length_map] at this;omega
  · exact h0
 have hqb:q.2∈h.bl:=List.mem_append_right _ (List.mem_map.2 ⟨q,List.mem_of_getElem? hq,rfl⟩);have hgb:h.g∈h.bl:=List.mem_append_left _ (vK.2 ⟨by omega,rfl⟩);obtain⟨n1,n2,n3⟩:=List.nodup_append.1 (a.nd _ h hh);have hne:h.g≠q.2:=n3 _ (vK.2 ⟨by omega,rfl⟩) _ (List.mem_map.2 ⟨q,List.mem_of_getElem? hq,rfl⟩);obtain⟨b1,b2,b3⟩:=a.out _ h hh _ hqb;have hrd:=s.own.rd;rw[hz] at hrd;refine⟨H.map oX.v,h.q.map Prod.fst,h.v,h.g,q.1,q.2,a.own.rd,hv,hrd,?_,o,⟨.inr b2⟩,⟨.inr (.inr (Ne.symm b1))⟩,⟨.inr (.inr hne)⟩,⟨.inr ⟨rfl,(a.out _ h hh _ hgb).2.2⟩⟩,?_⟩
 · unfold bG;rw[if_pos k0,List.getElem?_map,hq];rfl
 · intro w' r' hs hk ho;have hgl:g<w.heap.size:=by have:=a.own.lt;have:=a.top;omega
   refine⟨H,a.own.keep (.inr fun hl=>hk g hl (Ne.symm b1)),by rw[List.length_set];exact a.len,fun i' h' l' hi' hl'=>?_,a.nd,a.ap,fun i' h' hi' x hx=>by
    obtain⟨c1,c2,c3⟩:=a.out i' h' hi' x hx
    exact⟨c1,c2,Nat.lt_of_lt_of_le c3 hs⟩,a.top⟩
   by_cases he:i'=i.toNat
   · subst he;rw[hh] at hi';obtain rfl:=Option.some.inj hi';rw[List.getElem?_set_self (List.getElem?_eq_some_iff.1 hl).1] at hl';obtain rfl:=Option.some.inj hl';refine⟨s.own.keep (.inr fun hx=>hk _ hx hne),by rw[List.length_set];exact s.len,fun j' q' r'' hj' hr'=>?_⟩;by_cases hje:j'=j.toNat
     · subst hje;rw[hq] at hj';obtain rfl:=Option.some.inj hj';rw[List.getElem?_set_self cP] at hr';obtain rfl:=Option.some.inj hr';exact ho
     · rw[List.getElem?_set_ne (Ne.symm hje)] at hr';refine(s.row j' q' r'' hj' hr').keep (.inr fun hx=>hk _ hx fun hc=>?_);have x1:(h.q.map Prod.snd)[j']? = some q.2:=by rw[List.getElem?_map,hj'];simp[hc]
       have x2:(h.q.map Prod.snd)[j.toNat]? = some q.2:=by rw[List.getElem?_map,hq];rfl
       exact hje (Qr7 n2 x1 x2)
   · rw[List.getElem?_set_ne (Ne.symm he)] at hl';exact(a.sub i' h' l' hi' hl').keep fun x hx hxl=>hk x hxl fun hc=>a.ap i' i.toNat h' h he hi' hh x hx (hc ▸ hqb)
theorem mK.mk {n:Nat}(o:aT w 1 g e2 1 v ((List.replicate n (.slice none 0 0:Value)).map P8))(hg:n0≤g):mK e2 e1 e0 w n0 1 g v (List.replicate n []):=by
 refine⟨List.replicate n ⟨.slice none 0 0,0,0,[]⟩,?_,by simp,fun i h l hi hl=>?_,fun i h hi=>?_,fun i j h k _ hi _ x hx=>?_,fun i h hi x hx=>?_,rfl,hg⟩
 · rw[List.map_replicate];exact o
 all_goals
  have:=List.eq_of_mem_replicate (List.mem_of_getElem? hi);subst this
 · have:=List.eq_of_mem_replicate (List.mem_of_getElem? hl);subst this;exact⟨cU w 0 e1 1,rfl,fun j q r hj _=>by simp at hj⟩
 · simp[oX.bl,zf]
 · simp[oX.bl,zf] at hx
 · simp[oX.bl,zf] at hx
end
section
variable {P:Program} {Ls:Slots} {w:World} {dst:Option Nat} {ty:TypeId} {pos:String} {af:Array Edge} {gu:Option (Nat × Bool)} {x y:Operand} {t:TypeId} {e2 e1 e0:TypeId}
end
end Go.Sx

end
section
namespace Go.Sx
open Go Go.RowKit
section
variable {P:Program} {r:Option Nat} {n:Nat} {Q:Exit→List Deferred→Slots→World→Prop} {c:Code}
end
def fmE (kvs:List (Int × Value)):List MapEntry:=kvs.zipIdx.map fun x=>⟨.int .u8 x.1.1,x.1.2,x.2⟩
def Fo (w:World)(b:Nat)(kvs:List (Int × Value)):Prop:=w.heap[b]? = some (.map (fmE kvs).toArray kvs.length)
section
variable {w w':World} {b c z g:Nat} {kvs:List (Int × Value)} {l:List (Nat × Nat)}
theorem Fo.lt (h:Fo w b kvs):b<w.heap.size:=cP h
theorem Fo.gr (h:Fo w b kvs)(G:Gr w w'):Fo w' b kvs:=(G.block b h.lt).trans h
theorem Fo.md (h:Fo w b kvs)(M:Md c w w')(ne:b≠c:=by omega):Fo w' b kvs:=(M.block b ne).trans h
theorem Fo.ka (h:Fo w b kvs)(A:Ka z g w w')(hn:z=0∨g≠b:=by omega):Fo w' b kvs:=(A.block b h.lt (by omega)).trans h
theorem Fo.kz (h:Fo w b kvs)(K:Kz l w w')(hn:cC l b:=by simp only[cC,gV,gD,iS,Mz,cZ]<;>omega):Fo w' b kvs:=(K.block b h.lt hn).trans h
end
section
variable {P:Program} {L:Slots} {w:World} {dst:Option Nat} {ty:TypeId} {pos:String} {af:Array Edge} {gu:Option (Nat × Bool)} {x y z:Operand} {t K E:TypeId} {b:Nat} {kvs:List (Int × Value)} {k:Int} {v:Value}
end
end Go.Sx

end
section
namespace Go.Sx
open Go Go.RowKit
noncomputable section
end
end Go.Sx

end
section
namespace Go.Sx
open Go Go.RowKit
noncomputable section
end
end Go.Sx

end
section

end
section

end
section
namespace Go.Sx
open Go Go.RowKit
noncomputable section
end
end Go.Sx

end
section

end
section
namespace Go.Sx
open Go Go.RowKit
noncomputable section
structure wW where
 Num:List (BitVec 32)
 Den:List (BitVec 32)
deriving DecidableEq,Inhabited
def wW.cs (x:wW)(v0:Value)(v1:Value):List Value:=[v0,v1]
theorem wW.cs_ones (x:wW)(v0:Value)(v1:Value)(h0:oneB v0=true)(h1:oneB v1=true):bI (wW.cs x v0 v1)=true:=by simp only[wW.cs,List.cons_append,List.nil_append,kb,bI,fC,fB,fM,cond_true,h0,h1]
structure wH where
 Users:Int
 Block:Int
 Key:W2
 Limit:wW
deriving DecidableEq,Inhabited
def wH.cs (x:wH)(v0:Value)(v1:Value):List Value:=[.int .i64 x.Users,.int .i64 x.Block]++(kb x.Key++([v0,v1]))
theorem wH.cs_ones (x:wH)(v0:Value)(v1:Value)(h0:oneB v0=true)(h1:oneB v1=true):bI (wH.cs x v0 v1)=true:=by simp only[wH.cs,List.cons_append,List.nil_append,kb,bI,fC,fB,fM,cond_true,h0,h1]
end
end Go.Sx

end
section

end
section
namespace Go.Sx
open Go Go.RowKit
noncomputable section
structure Q8 where
 Steps:wH
 at_:List Int
deriving DecidableEq,Inhabited
def Q8.cs (x:Q8)(v0:Value)(v1:Value)(v2:Value):List Value:=[.int .i64 x.Steps.Users,.int .i64 x.Steps.Block]++(kb x.Steps.Key++([v0,v1,v2]))
theorem Q8.cs_ones (x:Q8)(v0:Value)(v1:Value)(v2:Value)(h0:oneB v0=true)(h1:oneB v1=true)(h2:oneB v2=true):bI (Q8.cs x v0 v1 v2)=true:=by simp only[Q8.cs,List.cons_append,List.nil_append,kb,bI,fC,fB,fM,cond_true,h0,h1,h2]
structure Q7 where
 d:Int
 marked:List (List (BitVec 32))
 others:List (List (BitVec 32))
deriving DecidableEq,Inhabited
def Q7.cs (x:Q7)(v0:Value)(v1:Value):List Value:=[.int .i64 x.d,v0,v1]
theorem Q7.cs_ones (x:Q7)(v0:Value)(v1:Value)(h0:oneB v0=true)(h1:oneB v1=true):bI (Q7.cs x v0 v1)=true:=by simp only[Q7.cs,List.cons_append,List.nil_append,kb,bI,fC,fB,fM,cond_true,h0,h1]
end
end Go.Sx

end
section

end
section
namespace Go.Sx
open Go Go.RowKit
noncomputable section
structure qS where
 Kind:BitVec 8
 Receiver:Int
 Account:Int
 Item:Int
 From:Int
 To:Int
 Amount:Int
 Region:BitVec 8
 Level:BitVec 8
 View:Bool
deriving DecidableEq,Inhabited
def qS.cs (x:qS)  : List Value:=[bv x.Kind,.int .i64 x.Receiver,.int .i64 x.Account,.int .i64 x.Item,.int .i64 x.From,.int .i64 x.To,.int .i64 x.Amount,bv x.Region,bv x.Level,.bool x.View]
theorem qS.cs_ones (x:qS)   : bI (qS.cs x )=true:=by simp only[qS.cs,List.cons_append,List.nil_append,kb,bI,fC,fB,fM,cond_true]
theorem qS.cs_inj {x y:qS}(h:qS.cs x=qS.cs y):x=y:=by
 have h0:x.Kind=y.Kind:=sW (congrArg (fun l=>l[0]?) h);have h1:x.Receiver=y.Receiver:=dJ (congrArg (fun l=>l[1]?) h);have h2:x.Account=y.Account:=dJ (congrArg (fun l=>l[2]?) h);have h3:x.Item=y.Item:=dJ (congrArg (fun l=>l[3]?) h);have h4:x.From=y.From:=dJ (congrArg (fun l=>l[4]?) h);have h5:x.To=y.To:=dJ (congrArg (fun l=>l[5]?) h);have h6:x.Amount=y.Amount:=dJ (congrArg (fun l=>l[6]?) h);have h7:x.Region=y.Region:=sW (congrArg (fun l=>l[7]?) h);have h8:x.Level=y.Level:=sW (congrArg (fun l=>l[8]?) h);have h9:x.View=y.View:=Kf (congrArg (fun l=>l[9]?) h);cases x;cases y;simp only at *;subst h0;subst h1;subst h2;subst h3;subst h4;subst h5;subst h6;subst h7;subst h8;subst h9;rfl
end
end Go.Sx

end
section

end
section
namespace Go.Sx
open Go Go.RowKit
noncomputable section
end
end Go.Sx

end
section

end
section
namespace Go.Sx
open Go
theorem fI {n:Nat}(h:n<9223372036854775808):n<aI:=by unfold aI;omega
theorem dO {n:Int}(h0 : -9223372036854775808≤n)(h1:n≤9223372036854775807):aX n=n:=by
 have:=IntKind.wrap_i64 n;unfold aX;rw[this];omega
theorem bind_some {α β:Type}(a:α)(f:α→Option β):Option.bind (some a) f=f a:=rfl
theorem kD {α:Type}{b:Nat}{l m:List α}(h:(l.length+m.length)*b≤140737488355328):gG b l m=some (l++m):=if_pos h
theorem eG {α:Type}{l:List α}{i:Nat}(h:i<l.length):bG l (i:Int)=some l[i]:=by unfold bG;rw[if_pos (by omega)];simp[h]
theorem B2 {α:Type}(l:List α)(i:Nat)(h:i<l.length):l.take (i+1)=l.take i++[l[i]]:=by rw[List.take_add_one];simp[h]
def w8 (x:BitVec 64):List (BitVec 8):=[fR x 0,fR x 1,fR x 2,fR x 3,fR x 4,fR x 5,fR x 6,fR x 7]
theorem Na (x:BitVec 64):(w8 x).length=8:=rfl
def Ct (n:Nat)(s:List (BitVec 8)):List (BitVec 8):=s.take n++List.replicate (n-s.length) 0#8
end Go.Sx

end
section
namespace Go.Sx
open Go
theorem iL (n k:Nat)(h:2^k≤n):Nat.log2 n=Nat.log2 (n / 2^k)+k:=by
 induction k generalizing n with
 | zero=>simp
 | succ k ih=>
  have h2:2^k≤n / 2:=by rw[Nat.le_div_iff_mul_le (by omega)];rw[Nat.pow_succ] at h;omega
  have h1:2≤n:=by have:0<2^k:=Nat.two_pow_pos k;rw[Nat.pow_succ] at h;omega
  rw[Nat.log2_def,if_pos h1,ih (n / 2) h2,Nat.div_div_eq_div_mul,Nat.pow_succ,Nat.mul_comm 2];omega
theorem oB {n:Nat}(h:2≤n):Nat.log2 n=Nat.log2 (n / 2)+1:=by rw[Nat.log2_def,if_pos h]
theorem Bw {m n:Nat}(h:m≤n):Nat.log2 m≤Nat.log2 n:=by
 rcases Nat.eq_zero_or_pos m with h0|h0
 · subst h0;rw[Nat.log2_zero];omega
 · exact(Nat.le_log2 (by omega)).2 (Nat.le_trans (Nat.log2_self_le (by omega)) h)
theorem T0 {n:Nat}(h:n<9223372036854775808):Nat.log2 n≤62:=by
 rcases Nat.eq_zero_or_pos n with h0|h0
 · subst h0;rw[Nat.log2_zero];omega
 · have:Nat.log2 n<63:=(Nat.log2_lt (by omega)).2 (by omega);omega
theorem Qxv {n:Nat}(h:n<9223372036854775808):un (wd (n:Int))=(n:Int):=Gi _ (by omega) (by omega)
theorem Qqg {n:Nat}(h:1≤n):lg (n:Int)=(Nat.log2 n:Int)+1:=by unfold lg;rw[Int.toNat_natCast,if_neg (by omega)]
theorem Qi {n:Nat}(h1:1≤n)(h:n<9223372036854775808):pG (n:Int)=some (Nat.log2 n:Int):=by
 have:=T0 h;unfold pG;rw[Qxv h,Qqg h1,dO (by omega) (by omega),Int.add_sub_cancel]
theorem Uh (n:Nat)(h:n<9223372036854775808):tP (n:Int) 2=some ((n / 2:Nat):Int):=by
 unfold tP;rw[if_neg (by decide),show(n:Int).tdiv 2=((n / 2:Nat):Int) from by rw[Int.tdiv_eq_ediv_of_nonneg (by omega)];omega,dO (by omega) (by omega)]
theorem Qfy:∀ (f n k:Nat),n<9223372036854775808→Nat.log2 n<f→k+Nat.log2 n≤1000→aS Ux f ((n:Int),(k:Int))=some ((k+Nat.log2 n:Nat):Int)
 | 0,n,k,_,h,_=>by omega
 | f+1,n,k,h,hf,hk=>by
  rw[eQ];simp only[Ux];by_cases h2:2≤n
  · have hh:=oB h2;rw[if_pos (by omega),Uh n h,bind_some,dO (by omega) (by omega)];have:=Qfy f (n / 2) (k+1) (by omega) (by omega) (by omega);rw[show(k:Int)+1=((k+1:Nat):Int) from by omega,this,hh];congr 2;omega
  · rw[if_neg (by omega)];have:Nat.log2 n=0:=by rw[Nat.log2_def,if_neg (by omega)]
    rw[this,Nat.add_zero]
theorem Qv3 {n:Nat}(h:n<9223372036854775808):Uw (n:Int)=some (Nat.log2 n:Int):=by
 have:=T0 h;have:=Qfy aI n 0 h (fI (by omega)) (by omega);unfold Uw;rw[show(0:Int)=((0:Nat):Int) from rfl,this,Nat.zero_add]
def cJ (w v:Nat):Bool:=decide (Nat.log2 v≤Nat.log2 w∧w / 2^(Nat.log2 w-Nat.log2 v)=v)
theorem Qiy {w v:Nat}(hv:1≤v)(h:v<w):cJ w v=cJ (w / 2) v:=by
 have hh:=oB (n:=w) (by omega);have hm:=Bw (Nat.le_of_lt h);unfold cJ;by_cases hl:Nat.log2 v≤Nat.log2 (w / 2)
 · have e:Nat.log2 w-Nat.log2 v=(Nat.log2 (w / 2)-Nat.log2 v)+1:=by omega
   have e2:w / 2^(Nat.log2 w-Nat.log2 v)=w / 2 / 2^(Nat.log2 (w / 2)-Nat.log2 v):=by rw[e,Nat.div_div_eq_div_mul,Nat.pow_succ,Nat.mul_comm 2]
   rw[e2];apply decide_eq_decide.2;constructor
   · rintro⟨_,h2⟩;exact⟨hl,h2⟩
   · rintro⟨_,h2⟩;exact⟨hm,h2⟩
 · rw[decide_eq_false (p:=_∧w / 2 / 2^_=v) (fun hc=>hl hc.1)];apply decide_eq_false;rintro⟨_,h2⟩;rw[show Nat.log2 w-Nat.log2 v=0 from by omega,Nat.pow_zero,Nat.div_one] at h2;omega
theorem Qix {w v:Nat}(hw:1≤w)(h:w≤v):cJ w v=decide (w=v):=by
 unfold cJ;by_cases e:w=v
 · subst e;simp
 · rw[decide_eq_false e];apply decide_eq_false;rintro⟨h1,h2⟩;have:=Bw h;rw[show Nat.log2 w-Nat.log2 v=0 from by omega,Nat.pow_zero,Nat.div_one] at h2;exact e h2
theorem Tl (n k:Nat)(hk:k≤64):tN (n:Int) k=((n / 2^k:Nat):Int):=by
 unfold tN;rw[Nat.min_eq_left hk,Int.natCast_ediv,Int.natCast_pow];rfl
theorem La {w v:Nat}(hw:1≤w)(hv:1≤v)(hw2:w<9223372036854775808)(hv2:v<9223372036854775808):qB (w:Int) (v:Int)=some (cJ w v):=by
 have l1:=T0 hw2;have l2:=T0 hv2;unfold qB wI;rw[if_neg (by omega),if_neg (by omega),Qi hw hw2,bind_some,Qi hv hv2,bind_some];by_cases h:Nat.log2 w<Nat.log2 v
 · rw[decide_eq_true (by omega)];unfold cJ;rw[decide_eq_false (by omega)];rfl
 · rw[decide_eq_false (by omega)];simp only[cond_false];rw[bind_some,bind_some,dO (by omega) (by omega)];have:eK ((Nat.log2 w:Int)-(Nat.log2 v:Int))=some (Nat.log2 w-Nat.log2 v):=by unfold eK;rw[if_pos (by omega)];congr 1;omega
   rw[this,bind_some,Tl _ _ (by omega)];unfold cJ;congr 1;apply decide_eq_decide.2;constructor
   · intro h3;exact⟨by omega,by omega⟩
   · intro h3;omega
theorem Qfe {v:Nat}(hv:1≤v):∀ (f w:Nat),1≤w→w<9223372036854775808→Nat.log2 w<f→aS (Ut (v:Int)) f (w:Int)=some (cJ w v)
 | 0,w,_,_,h=>by omega
 | f+1,w,hw,hw2,hf=>by
  rw[eQ];simp only[Ut];by_cases h:v<w
  · have hh:=oB (n:=w) (by omega);rw[if_pos (by omega),Uh w hw2,bind_some,Qfe hv f (w / 2) (by omega) (by omega) (by omega),Qiy hv h]
  · rw[if_neg (by omega),Qix hw (by omega)];congr 1;apply decide_eq_decide.2;omega
theorem Pz {w v:Nat}(hw:1≤w)(hv:1≤v)(hw2:w<9223372036854775808):Xl (w:Int) (v:Int)=some (cJ w v):=by
 have:=T0 hw2;exact Qfe hv aI w hw hw2 (fI (by omega))
def jK (d:Nat):Nat:=if d≤1 then 1 else if d≤4 then 2 else 3
theorem Qgo (d:Nat):1≤jK d:=by unfold jK;split;omega;split<;>omega
theorem Uj:∀ d:Fin 7,vL (d.1:Int)=some ((2^d.1:Nat):Int):=by decide +kernel
theorem Da {d:Nat}(h:d≤6):vL (d:Int)=some ((2^d:Nat):Int):=Uj ⟨d,by omega⟩
theorem Qwp:∀ d:Fin 7,Uz (d.1:Int)=some ((jK d.1:Nat):Int):=by decide +kernel
theorem Qvc {d:Nat}(h:d≤6):Uz (d:Int)=some ((jK d:Nat):Int):=Qwp ⟨d,by omega⟩
theorem fO {d:Nat}(h:d≤6):2^d≤64:=Nat.le_trans (Nat.pow_le_pow_right (by omega) h) (by decide)
theorem zD {d:Nat}(h:d≤6):cW 1 d=((2^d:Nat):Int):=by
 have:=fO h;unfold cW;rw[Nat.min_eq_left (by omega),Int.one_mul,show(2:Int)^d=((2^d:Nat):Int) from by rw[Int.natCast_pow];rfl];generalize 2^d=m at *;exact dO (by omega) (by omega)
theorem vC (n:Nat):eK (n:Int)=some n:=by unfold eK;rw[if_pos (by omega)];rfl
theorem Eu {k:BitVec 8}{d:Nat}{st:Int}(h:d≤6):xH ⟨k,(d:Int),st⟩=some ((2^d:Nat):Int):=by
 unfold xH;rw[vC,bind_some,zD h]
def nJ (d:Nat)(v:Int):Bool:=decide (1≤v∧v<2*(2^d:Nat))
theorem Yq {k:BitVec 8}{d:Nat}{st v:Int}(h:d≤6):V6 ⟨k,(d:Int),st⟩ v=some (nJ d v):=by
 have:=fO h;unfold V6 nJ;by_cases h1:1≤v
 · rw[if_pos h1,Eu h,bind_some];generalize 2^d=m at *;rw[dO (by omega) (by omega)];congr 1;apply decide_eq_decide.2;omega
 · rw[if_neg h1];congr 1;symm;apply decide_eq_false;omega
theorem T3 {d:Nat}{v:Int}(h:d≤6):Dd (d:Int) v=some (nJ d v):=by
 have:=fO h;unfold Dd nJ;by_cases h1:1≤v
 · rw[if_pos h1,Da h,bind_some];generalize 2^d=m at *;rw[dO (by omega) (by omega)];congr 1;apply decide_eq_decide.2;omega
 · rw[if_neg h1];congr 1;symm;apply decide_eq_false;omega
theorem Yp {d:Nat}{v:Int}(hd:d≤6)(h:nJ d v=true):∃ n:Nat,v=(n:Int)∧1≤n∧n<128:=by
 have:=fO hd;unfold nJ at h;generalize 2^d=m at *;have:=of_decide_eq_true h;exact⟨v.toNat,by omega,by omega,by omega⟩
def fF (d v:Nat):Bool:=decide (Nat.log2 v%jK d=0)
theorem Dm (a b:Nat)(hb:1≤b):nY (a:Int) (b:Int)=some ((a%b:Nat):Int):=by
 unfold nY;rw[if_neg (by omega),Int.tmod_eq_emod_of_nonneg (by omega),Int.natCast_emod]
theorem Ev {k:BitVec 8}{d v:Nat}(hv:1≤v)(hv2:v<9223372036854775808):qC ⟨k,(d:Int),(jK d:Int)⟩ (v:Int)=some (fF d v):=by
 unfold qC fF;rw[Qi hv hv2,bind_some,Dm _ _ (Qgo d),bind_some];congr 1;apply decide_eq_decide.2;omega
theorem Ej {d v:Nat}(hd:d≤6)(hv2:v<9223372036854775808):Xn (d:Int) (v:Int)=some (fF d v):=by
 unfold Xn fF;rw[Qv3 hv2,bind_some,Qvc hd,bind_some,Dm _ _ (Qgo d),bind_some];congr 1;apply decide_eq_decide.2;omega
def eN (w:Nat):Nat→List Nat
 | 0=>[]
 | k+1=>w / 2^k::eN w k
theorem Cu (w k:Nat):eN w (k+1)=eN (w / 2) k++[w]:=by
 induction k with
 | zero=>simp[eN]
 | succ k ih=>rw[eN,ih,eN,List.cons_append,Nat.div_div_eq_div_mul,Nat.pow_succ,Nat.mul_comm 2]
theorem G0 (w k:Nat):(eN w k).length=k:=by
 induction k with
 | zero=>rfl
 | succ k ih=>simp[eN,ih]
theorem Qey {w k n:Nat}(hk:2^k≤w)(h:n∈eN w k):1≤n∧n≤w:=by
 induction k with
 | zero=>cases h
 | succ k ih=>
  have hk':2^k≤w:=by rw[Nat.pow_succ] at hk;omega
  rcases List.mem_cons.1 h with rfl|h
  · exact⟨(Nat.le_div_iff_mul_le (Nat.two_pow_pos k)).2 (by omega),Nat.div_le_self _ _⟩
  · exact ih hk' h
theorem Bv {w k:Nat}(hk:2^k≤w):Nat.log2 (w / 2^k)=Nat.log2 w-k:=by have:=iL w k hk;omega
theorem pS {w k:Nat}(hk:2^k≤w):1≤w / 2^k:=(Nat.le_div_iff_mul_le (Nat.two_pow_pos k)).2 (by omega)
theorem Qxe {w k:Nat}(hk:2^(k+1)≤w)(hw:w<9223372036854775808):uH ((w / 2^(k+1):Nat):Int) (w:Int)=some ((w / 2^k:Nat):Int):=by
 have hp:=Nat.two_pow_pos (k+1);have l1:=T0 hw;have hl:=iL w (k+1) hk;unfold uH;rw[Qi (by omega) hw,bind_some,Qi (pS hk) (Nat.lt_of_le_of_lt (Nat.div_le_self _ _) hw),bind_some,dO (n:=(Nat.log2 w:Int)-(Nat.log2 (w / 2^(k+1)):Int)) (by omega) (by omega),dO (by omega) (by omega)];rw[show(Nat.log2 w:Int)-(Nat.log2 (w / 2^(k+1)):Int)-1=((k:Nat):Int) from by omega,vC,bind_some,Tl _ _ (by omega)]
theorem Qf0 {w:Nat}(hw:w<9223372036854775808):∀ (k f:Nat),k<f→2^k≤w→aS (xX (w:Int)) f ((w / 2^k:Nat):Int)=some ((eN w k).map Int.ofNat)
 | k,0,h,_=>by omega
 | 0,f+1,_,_=>by
  rw[eQ];simp only[xX];rw[if_neg (by simp)];rfl
 | k+1,f+1,h,hk=>by
  rw[eQ];simp only[xX];have h1:w / 2^(k+1)<w:=Nat.div_lt_self (by have:=Nat.two_pow_pos (k+1);omega) (Nat.one_lt_two_pow (by omega));rw[if_pos (by omega),Qxe hk hw,bind_some,Qf0 hw k f (by omega) (by rw[Nat.pow_succ] at hk;omega)];rfl
theorem Qez {w k:Nat}(hw:w<9223372036854775808)(hk:2^k≤w)(hk2:k≤64):V4 ((w / 2^k:Nat):Int) (w:Int)=some ((eN w k).map Int.ofNat):=Qf0 hw k aI (fI (by omega)) hk
theorem Ve {w j k:Nat}(hk:2^k≤w)(hj:j<k):w / 2^j≠w / 2^k:=fun e=>by
 have h1:=Bv hk;have h2:=Bv (w:=w) (k:=j) (Nat.le_trans (Nat.pow_le_pow_right (by omega) (by omega)) hk);have h3:=iL w k hk;rw[e] at h2;omega
theorem Qg4 {w k:Nat}(hw:w<9223372036854775808)(hk:2^k≤w)(hk2:k≤64):∀ (m j f:Nat),j+m=k→m<f→aS (Dh ((w / 2^k:Nat):Int)) f (((w / 2^j:Nat):Int),(eN w j).map Int.ofNat)=some (((w / 2^k:Nat):Int)::(eN w k).map Int.ofNat)
 | m,j,0,_,h=>by omega
 | 0,j,f+1,hj,_=>by
  obtain rfl:j=k:=by omega
  rw[eQ];simp only[Dh];rw[if_neg (by simp),kD (by simp[G0];omega),bind_some];rfl
 | m+1,j,f+1,hj,hf=>by
  rw[eQ];simp only[Dh];have hne:=Ve hk (show j<k by omega);have cP:w / 2^j<9223372036854775808:=Nat.lt_of_le_of_lt (Nat.div_le_self _ _) hw;rw[if_pos (by omega),kD (by simp[G0];omega),bind_some,Uh _ cP,bind_some,Nat.div_div_eq_div_mul,←Nat.pow_succ];exact Qg4 hw hk hk2 m (j+1) f (by omega) (by omega)
theorem Qg3 {w k:Nat}(hw:w<9223372036854775808)(hk:2^k≤w)(hk2:k≤64):Dg ((w / 2^k:Nat):Int) (w:Int)=some (((w / 2^k:Nat):Int)::(eN w k).map Int.ofNat):=by
 have:=Qg4 hw hk hk2 k 0 aI (by omega) (fI (by omega));rw[Nat.pow_zero,Nat.div_one] at this;exact this
end Go.Sx

end
section
namespace Go.Sx
open Go
def zG:dR:=dR.mk 0#64 0#64 0#64
def eO (s:aF):Bool:=decide (1#8≤s.Kind∧s.Kind≤3#8∧0≤s.Depth∧s.Depth≤6∧s.Degree=0∧s.Group=zG)
theorem Zu (s:aF):Di s=some (eO s):=by
 unfold Di eO zG;by_cases h1:1#8≤s.Kind
 · by_cases h2:s.Kind≤3#8
   · by_cases h3:0≤s.Depth
     · by_cases h4:s.Depth≤6
       · by_cases h5:s.Degree=0
         · simp[h1,h2,h3,h4,h5]
         · simp[h1,h2,h3,h4,h5]
       · simp[h1,h2,h3,h4]
     · simp[h1,h2,h3]
   · simp[h1,h2]
 · simp[h1]
theorem Zv {s:aF}(h:eO s=true):∃ d:Nat,s.Depth=(d:Int)∧d≤6:=by
 unfold eO at h;have:=of_decide_eq_true h;exact⟨s.Depth.toNat,by omega,by omega⟩
theorem Ab (s:aF)(n:Nat)(a:Int):aS (xZ s) (n+1) a=if aX (a*a)<s.Depth then aS (xZ s) n (aX (a+1)) else some (bB.mk s.Kind s.Depth a,true):=rfl
theorem Qxi (s:aF){d:Nat}(hd:s.Depth=(d:Int))(h:d≤6):aS (xZ s) aI 1=some (bB.mk s.Kind (d:Int) (jK d:Int),true):=by
 have e1:aX (1*1)=1:=by decide
 have e2:aX (1+1)=2:=by decide
 have e3:aX (2*2)=4:=by decide
 have e4:aX (2+1)=3:=by decide
 have e5:aX (3*3)=9:=by decide
 rw[show aI=18446744073709551613+3 from rfl,Ab,e1,e2,hd];unfold jK;by_cases h1:d≤1
 · rw[if_neg (by omega),if_pos h1,←hd];rfl
 · rw[if_pos (by omega),if_neg h1,show 18446744073709551613+2=18446744073709551614+1 from rfl,Ab,e3,e4,hd];by_cases h2:d≤4
   · rw[if_neg (by omega),if_pos h2,←hd];rfl
   · rw[if_pos (by omega),if_neg h2,show 18446744073709551614=18446744073709551613+1 from rfl,Ab,e5,hd,if_neg (by omega),←hd];rfl
def dI (s:aF):bB:=bB.mk s.Kind s.Depth (jK s.Depth.toNat:Int)
theorem Zs (s:aF):V5 s=some (if eO s then(dI s,true) else(bB.mk 0#8 0 0,false)):=by
 unfold V5 uP;by_cases hv:eO s=true
 · rw[if_pos hv];obtain⟨d,hd,h6⟩:=Zv hv;unfold eO at hv;obtain⟨h1,h2,h3,h4,h5,h7⟩:=of_decide_eq_true hv;have hs:s=aF.mk s.Kind s.Depth 0 (dR.mk 0#64 0#64 0#64):=by cases s;simp only at *;rw[h5,h7];rfl
   rw[if_neg (by rw[BitVec.not_lt];exact h1),if_neg (by rw[BitVec.not_lt];exact h2),if_neg (by omega),if_neg (by omega),decide_eq_false (by simpa using hs)];simp only[cond_false];rw[Qxi s hd h6];unfold dI;rw[hd,Int.toNat_natCast]
 · rw[if_neg hv];have hn:¬ (1#8≤s.Kind∧s.Kind≤3#8∧0≤s.Depth∧s.Depth≤6∧s.Degree=0∧s.Group=zG):=fun h=>hv (by unfold eO;exact decide_eq_true h);by_cases h1:s.Kind<1#8
   · rw[if_pos h1];rfl
   · rw[if_neg h1];by_cases h2:3#8<s.Kind
     · rw[if_pos h2];rfl
     · rw[if_neg h2];by_cases h3:s.Depth<0
       · rw[if_pos h3];rfl
       · rw[if_neg h3];by_cases h4:(6:Int)<s.Depth
         · rw[if_pos h4];rfl
         · rw[if_neg h4,decide_eq_true (p:=s≠_)]
           · rfl
           · intro hs;refine hn ⟨BitVec.not_lt.1 h1,BitVec.not_lt.1 h2,by omega,by omega,?_,?_⟩
             · rw[hs]
             · rw[hs];rfl
def kB (d:Nat)(l:List Nat):Nat:=(l.find? (fF d)).getD 0
theorem Qct {k:BitVec 8}{d:Nat}:∀ (l:List Nat),(∀ n∈l,1≤n∧n<9223372036854775808)→
 eS (V2 ⟨k,(d:Int),(jK d:Int)⟩) A3 (l.map Int.ofNat) 0=some ((kB d l:Nat):Int)
 | [],_=>rfl
 | a::l,h=>by
  rw[List.map_cons,rH];simp only[V2];have ha:=h a (by simp);rw[show(Int.ofNat a)=(a:Int) from rfl,Ev ha.1 ha.2,bind_some];unfold kB;rw[List.find?_cons]
  cases hs:fF d a with
  | true=>rfl
  | false=>exact Qct l (fun n hn=>h n (by simp[hn]))
theorem Oe {d:Nat}(hd:d≤6)(v m:Nat)(l:List Nat)(hl:l.length≤64)(hb:∀ n∈l,n<9223372036854775808):∀ (r:List Nat) (j f:Nat),j+r.length=l.length→l.drop j=r→r.length<f→
 aS (Dk (d:Int) ((v:Int)::(l++[m]).map Int.ofNat)) f ((j+1:Nat):Int)=some ((kB d r:Nat):Int)
 | r,j,0,_,_,h=>by omega
 | [],j,f+1,hj,hr,_=>by
  rw[eQ];simp only[Dk];rw[dO (by simp;omega) (by simp;omega),if_neg (by simp;simp at hj;omega)];rfl
 | a::r,j,f+1,hj,hr,hf=>by
  rw[eQ];simp only[Dk];have hjl:j<l.length:=by simp at hj;omega
  have ha:l[j]=a:=by
   have:=List.drop_eq_getElem_cons hjl;rw[hr] at this;exact(List.cons.inj this).1.symm
  have hr':l.drop (j+1)=r:=by
   have:=List.drop_eq_getElem_cons hjl;rw[hr] at this;exact(List.cons.inj this).2.symm
  have hg:bG ((v:Int)::(l++[m]).map Int.ofNat) ((j+1:Nat):Int)=some (a:Int):=by
   rw[eG (by simp;omega)];simp only[List.map_append,List.getElem_cons_succ,List.getElem_append_left (show j<(l.map Int.ofNat).length by simpa using hjl),List.getElem_map,ha];rfl
  rw[dO (by simp;omega) (by simp;omega),if_pos (by simp;omega),hg,bind_some,Ej hd (hb a (by rw[←ha];exact List.getElem_mem hjl)),bind_some];unfold kB;rw[List.find?_cons]
  cases hs:fF d a with
  | true=>rfl
  | false=>
   simp only[cond_false];rw[dO (by simp at hj;omega) (by simp at hj;omega),show((j+1:Nat):Int)+1=((j+1+1:Nat):Int) from by omega];exact Oe hd v m l hl hb r (j+1) f (by simp at hj ⊢;omega) hr' (by simp at hf;omega)
theorem Z3 {m n:Nat}(hm:1≤m)(hn:1≤n)(h:cJ m n=true)(hne:m≠n):∃ k,Nat.log2 m-Nat.log2 n=k+1∧n=m / 2^(k+1)∧2^(k+1)≤m:=by
 unfold cJ at h;obtain⟨h1,h2⟩:=of_decide_eq_true h;have h3:Nat.log2 m-Nat.log2 n≠0:=fun e=>by rw[e,Nat.pow_zero,Nat.div_one] at h2;exact hne h2
 refine⟨Nat.log2 m-Nat.log2 n-1,by omega,?_,?_⟩
 · rw[show Nat.log2 m-Nat.log2 n-1+1=Nat.log2 m-Nat.log2 n from by omega];exact h2.symm
 · rw[show Nat.log2 m-Nat.log2 n-1+1=Nat.log2 m-Nat.log2 n from by omega];exact Nat.le_trans (Nat.pow_le_pow_right (by omega) (by omega)) (Nat.log2_self_le (by omega))
theorem Qd6 {m k:Nat}(h:2^(k+1)≤m):2^k≤m / 2:=by rw[Nat.le_div_iff_mul_le (by omega)];rw[Nat.pow_succ] at h;omega
theorem Qag {kd:BitVec 8}{d m k:Nat}(hm:m<128)(hk:2^(k+1)≤m)(hk2:k≤60):sT ⟨kd,(d:Int),(jK d:Int)⟩ ((m / 2^(k+1):Nat):Int) (m:Int)=some ((kB d (eN (m / 2) k):Nat):Int):=by
 unfold sT xQ Kq;rw[show eK (un 1#64)=some 1 from by decide,bind_some,bind_some,Tl _ _ (by omega),Nat.pow_one];simp only;have e:m / 2^(k+1)=m / 2 / 2^k:=by rw[Nat.div_div_eq_div_mul,Nat.pow_succ,Nat.mul_comm 2]
 have hp:=Qd6 hk;rw[e,Qez (by omega) hp (by omega),bind_some,Qct _ (fun n hn=>by have:=Qey hp hn;omega),bind_some]
theorem Od {d m k:Nat}(hd:d≤6)(hm:m<128)(hk:2^(k+1)≤m)(hk2:k≤60):Dj (d:Int) ((m / 2^(k+1):Nat):Int) (m:Int)=some ((kB d (eN (m / 2) k):Nat):Int):=by
 have hp:=Qd6 hk;unfold Dj;rw[Qg3 (by omega) hk (by omega),bind_some,Cu];have:=Oe hd (m / 2^(k+1)) m (eN (m / 2) k) (by rw[G0];omega) (fun n hn=>by have:=Qey hp hn;omega) (eN (m / 2) k) 0 aI (by omega) rfl (fI (by rw[G0];omega));exact this
theorem yQ {m k:Nat}(h:2^k≤m)(hm:m<128):k≤6:=by
 have h1:=(Nat.le_log2 (n:=m) (by have:=Nat.two_pow_pos k;omega)).2 h;have h2:Nat.log2 m<7:=(Nat.log2_lt (by have:=Nat.two_pow_pos k;omega)).2 (by omega);omega
def wY (s:aF)(x:bZ):Prop:=nJ s.Depth.toNat x.Node=true∧(s.Kind=1#8∨x.Minus=0∨(∃ m n k:Nat,x.Minus=(m:Int)∧x.Node=(n:Int)∧n=m / 2^(k+1)∧2^(k+1)≤m∧m<128∧k≤6∧1≤n))
theorem Qww (s:aF)(hv:eO s=true)(x:bZ):∃ b,pL (dI s) x=some b∧qY s x=some b∧(b=true→wY s x):=by
 obtain⟨d,hd,h6⟩:=Zv hv;have ht:dI s=⟨s.Kind,(d:Int),(jK d:Int)⟩:=by unfold dI;rw[hd,Int.toNat_natCast]
 rw[ht];unfold pL qY;rw[hd,Yq h6,T3 h6,bind_some,bind_some];have hno:false=true→wY s x:=fun h=>by cases h
 cases h1:nJ d x.Node with
 | false=>exact⟨false,rfl,rfl,hno⟩
 | true=>
  have hsd:nJ s.Depth.toNat x.Node=true:=by rw[hd,Int.toNat_natCast];exact h1
  simp only[Bool.not_true,cond_false];obtain⟨n,hn,hn1,hn2⟩:=Yp h6 h1;by_cases hk:s.Kind=1#8
  · rw[if_pos hk,if_pos hk];unfold Y0;rw[cond_true];by_cases hm:x.Minus=0
    · rw[if_pos hm,if_pos hk];exact⟨true,rfl,by rw[decide_eq_true hm],fun _=>⟨hsd,.inl hk⟩⟩
    · rw[if_neg hm];exact⟨false,rfl,by rw[decide_eq_false hm],hno⟩
  · rw[if_neg hk,if_neg hk];unfold Y0;by_cases hm:x.Minus=0
    · rw[decide_eq_true hm,cond_true,if_pos hm,if_neg hk,if_pos hm];exact⟨_,rfl,rfl,fun _=>⟨hsd,.inr (.inl hm)⟩⟩
    · rw[decide_eq_false hm,cond_false,if_neg hm,Yq h6,T3 h6,bind_some,bind_some];have hf:∃ b,xP ⟨s.Kind,(d:Int),(jK d:Int)⟩ x true=some b∧zY s x true=some b∧(b=true→wY s x):=⟨false,rfl,rfl,hno⟩
      cases h2:nJ d x.Minus with
      | false=>exact hf
      | true=>
       rw[Bool.not_true,cond_false,cond_false];obtain⟨m,hm1,hm2,hm3⟩:=Yp h6 h2;by_cases he:x.Minus=x.Node
       · rw[if_pos he,if_pos he];exact hf
       · have e1:qB x.Minus x.Node=some (cJ m n):=by rw[hm1,hn];exact La hm2 hn1 (by omega) (by omega)
         have e2:Xl x.Minus x.Node=some (cJ m n):=by rw[hm1,hn];exact Pz hm2 hn1 (by omega)
         rw[if_neg he,if_neg he,e1,e2,bind_some,bind_some]
         cases h3:cJ m n with
         | false=>exact hf
         | true=>
          obtain⟨k,hk0,hk1,hk2⟩:=Z3 hm2 hn1 h3 (by omega);have hkl:=yQ hk2 hm3;have hok:∀ b:Bool,b=true→wY s x:=fun b _=>⟨hsd,.inr (.inr ⟨m,n,k,hm1,hn,hk1,hk2,hm3,by omega,hn1⟩)⟩;unfold xP zY;rw[Bool.not_true,cond_false,cond_false];by_cases hk3:s.Kind=2#8
          · rw[if_pos hk3,if_pos hk3];exact⟨true,rfl,rfl,hok true⟩
          · have e3:qC ⟨s.Kind,(d:Int),(jK d:Int)⟩ x.Node=some (fF d n):=by rw[hn];exact Ev hn1 (by omega)
            have e4:Xn s.Depth x.Node=some (fF d n):=by rw[hn,hd];exact Ej h6 (by omega)
            rw[if_neg hk3,if_neg hk3,e3,e4,bind_some,bind_some]
            cases hs:fF d n with
            | true=>exact⟨true,rfl,rfl,hok true⟩
            | false=>
             rw[cond_false,cond_false];have e5:sT ⟨s.Kind,(d:Int),(jK d:Int)⟩ x.Node x.Minus=some ((kB d (eN (m / 2) k):Nat):Int):=by rw[hn,hm1,hk1];exact Qag hm3 hk2 (by omega)
             have e6:Dj s.Depth x.Node x.Minus=some ((kB d (eN (m / 2) k):Nat):Int):=by rw[hn,hm1,hd,hk1];exact Od h6 hm3 hk2 (by omega)
             rw[e5,e6,bind_some];exact⟨_,rfl,rfl,hok _⟩
end Go.Sx

end
section
namespace Go.Sx
open Go
theorem Qcv {α σ τ R:Type}(l:List α)(F:(τ→Option R)→τ→Option R)(pk:Nat→σ→τ)(B:α→(σ→Option R)→σ→Option R)(D:σ→Option R)
 (h1:∀ rec (j:Nat) (hj:j<l.length) s,F rec (pk j s)=B l[j] (fun s'=>rec (pk (j+1) s')) s) (h2:∀ rec s,F rec (pk l.length s)=D s):
 ∀ (m j f:Nat) (s:σ),j+m=l.length→m<f→aS F f (pk j s)=eS B D (l.drop j) s
 | m,j,0,s,_,h=>by omega
 | 0,j,f+1,s,hj,_=>by
  have:j=l.length:=by omega
  subst this;rw[eQ,h2,List.drop_length];rfl
 | m+1,j,f+1,s,hj,hf=>by
  have hjl:j<l.length:=by omega
  rw[eQ,h1 _ j hjl,List.drop_eq_getElem_cons hjl,rH];have:(fun s'=>aS F f (pk (j+1) s'))=eS B D (l.drop (j+1)):=funext fun s'=>Qcv l F pk B D h1 h2 m (j+1) f s' (by omega) (by omega);rw[this]
theorem O8 {α σ τ R:Type}(l:List α)(F:(τ→Option R)→τ→Option R)(pk:Nat→σ→τ)(B:α→(σ→Option R)→σ→Option R)(D:σ→Option R)
 (h1:∀ rec (j:Nat) (hj:j<l.length) s,F rec (pk j s)=B l[j] (fun s'=>rec (pk (j+1) s')) s) (h2:∀ rec s,F rec (pk l.length s)=D s) {f:Nat} (hf:l.length<f) (s:σ):aS F f (pk 0 s)=eS B D l s:=by
 have:=Qcv l F pk B D h1 h2 l.length 0 f s (by omega) hf;rwa[List.drop_zero] at this
theorem Ry {σ τ R:Type}(n:Nat)(F:(τ→Option R)→τ→Option R)(pk:Nat→σ→τ)(B:Nat→(σ→Option R)→σ→Option R)(D:σ→Option R)
 (h1:∀ rec (j:Nat) (hj:j<n) s,F rec (pk j s)=B j (fun s'=>rec (pk (j+1) s')) s) (h2:∀ rec s,F rec (pk n s)=D s) {f:Nat} (hf:n<f) (s:σ):aS F f (pk 0 s)=eS B D (List.range n) s:=
 O8 (List.range n) F pk B D (fun rec j hj s=>by rw[List.length_range] at hj;rw[h1 rec j hj,List.getElem_range]) (fun rec s=>by rw[List.length_range];exact h2 rec s) (by rw[List.length_range];exact hf) s
theorem Qpl {α β σ R:Type}(F:β→(σ→Option R)→σ→Option R)(d:σ→Option R)(g:α→β)(l:List α):eS F d (l.map g)=eS (fun a=>F (g a)) d l:=by unfold eS;rw[List.foldr_map]
theorem Qdh {α σ R:Type}(g:σ→α→σ)(F:α→(σ→Option R)→σ→Option R)(d:σ→Option R)(I:Nat→σ→Prop):∀ (l:List α) (k:Nat) (s:σ),(∀ j (a:α) s nx,a∈l→I j s→F a nx s=nx (g s a))→(∀ j (a:α) s,a∈l→I j s→I (j+1) (g s a))→I k s→eS F d l s=d (l.foldl g s)
 | [],k,s,_,_,_=>rfl
 | a::l,k,s,h,hi,hs=>by
  rw[rH,h k a s _ (by simp) hs,List.foldl_cons];exact Qdh g F d I l (k+1) (g s a) (fun j b s nx hb=>h j b s nx (by simp[hb])) (fun j b s hb=>hi j b s (by simp[hb])) (hi k a s (by simp) hs)
theorem Yu {α β R:Type}(b n:Nat)(p:α→Bool)(f:α→β)(F:α→(List β→Option R)→List β→Option R)(d:List β→Option R):∀ (l:List α) (s:List β),(∀ a∈l,∀ nx s,F a nx s=bif p a then Option.bind (gG b s [f a]) nx else nx s)→(s.length+l.length)*b≤140737488355328→eS F d l s=d (s++(l.filter p).map f)
 | [],s,_,_=>by simp[Qpm]
 | a::l,s,h,hb=>by
  have hlen:(s.length+(a::l).length)*b=(s.length+1+l.length)*b:=by congr 1;simp;omega
  rw[rH,h a (by simp),List.filter_cons]
  cases hp:p a with
  | true=>
   have h2:(s.length+1)*b≤(s.length+1+l.length)*b:=Nat.mul_le_mul_right _ (by omega);rw[cond_true,kD (by simp;omega),bind_some,Yu b n p f F d l (s++[f a]) (fun x hx=>h x (by simp[hx])) (by simp;omega)];simp
  | false=>
   have h2:(s.length+l.length)*b≤(s.length+1+l.length)*b:=Nat.mul_le_mul_right _ (by omega);rw[cond_false,Yu b n p f F d l s (fun x hx=>h x (by simp[hx])) (by omega)];simp
theorem Bk {α σ R:Type}(p:α→Bool)(X:α→σ→Option R)(F:α→(σ→Option R)→σ→Option R)(d:σ→Option R):∀ (l:List α) (s:σ),(∀ a∈l,∀ nx s,F a nx s=bif p a then X a s else nx s)→eS F d l s=match l.find? p with|some a=>X a s|none=>d s
 | [],s,_=>rfl
 | a::l,s,h=>by
  rw[rH,h a (by simp),List.find?_cons]
  cases hp:p a with
  | true=>rfl
  | false=>rw[cond_false];exact Bk p X F d l s (fun x hx=>h x (by simp[hx]))
theorem Qz8 {α:Type}(x:α)(l:List α):yl x (some l)=some (x::l):=rfl
theorem gR {n:Nat}(h:n<9223372036854775807):aX ((n:Int)+1)=((n+1:Nat):Int):=by rw[dO (by omega) (by omega)];omega
end Go.Sx

end
section
namespace Go.Sx
open Go
def iY (leaf:Nat)(v w:Nat):Bool:=cJ leaf v&&(decide (w=0) || !cJ leaf w)
def M1 (s:aF)(x:bZ)(n m:Nat):Prop:=x.Node=(n:Int)∧x.Minus=(m:Int)∧1≤n∧n<128∧m<128
theorem Qwq (s:aF)(hv:eO s=true)(x:bZ)(h:qY s x=some true):∃ n m:Nat,M1 s x n m:=by
 obtain⟨d,hd,h6⟩:=Zv hv;unfold qY at h;rw[hd,T3 h6,bind_some] at h
 cases h1:nJ d x.Node with
 | false=>rw[h1] at h;simp at h
 | true=>
  obtain⟨n,hn,hn1,hn2⟩:=Yp h6 h1;rw[h1] at h;simp only[Bool.not_true,cond_false] at h;by_cases hm:x.Minus=0
  · exact⟨n,0,hn,by simpa using hm,hn1,hn2,by omega⟩
  · by_cases hk:s.Kind=1#8
    · rw[if_pos hk,decide_eq_false hm] at h;simp at h
    · rw[if_neg hk,if_neg hm,T3 h6,bind_some] at h
      cases h2:nJ d x.Minus with
      | false=>rw[h2] at h;simp[zY] at h
      | true=>
       obtain⟨m,hm1,hm2,hm3⟩:=Yp h6 h2;exact⟨n,m,hn,hm1,hn1,hn2,hm3⟩
theorem Qqb {k:BitVec 8}{d u:Nat}{st:Int}(h:d≤6)(hu:u<128):xV ⟨k,(d:Int),st⟩ (u:Int)=some ((2^d+u:Nat):Int):=by
 have:=fO h;unfold xV;rw[Eu h,bind_some];generalize 2^d=m at *;rw[dO (by omega) (by omega)];congr 1
theorem Ft (s:aF):lM s ([]:List bZ)=some (if eO s then(dI s,0) else(bB.mk 0#8 0 0,30)):=by
 unfold lM;rw[Zs,bind_some]
 cases hv:eO s with
 | false=>rfl
 | true=>rfl
theorem Qnk (s:aF)(hv:eO s=true)(x:bZ):∃ b,lM s [x]=some (if b then(dI s,0) else(bB.mk 0#8 0 0,31))∧qY s x=some b∧pL (dI s) x=some b∧(b=true→wY s x∧∃ n m,M1 s x n m):=by
 obtain⟨b,e1,e2,e3⟩:=Qww s hv x;refine⟨b,?_,e2,e1,fun h=>⟨e3 h,Qwq s hv x (h ▸ e2)⟩⟩;unfold lM;rw[Zs,bind_some,if_pos hv];show aS (uV [x] (dI s,true)) (18446744073709551614+1+1) 0=_;rw[eQ];simp only[uV];rw[if_pos (by simp),show bG [x] 0=some x from rfl,bind_some,e1,bind_some]
 cases b with
 | false=>rfl
 | true=>rfl
end Go.Sx

end
section
namespace Go.Sx
open Go
def iX (k:BitVec 8)(d v w:Nat):Bool:=decide (k=2#8)||fF d v||decide (kB d (eN (w / 2) (Nat.log2 w-Nat.log2 v-1))=0)
def Qg (k:BitVec 8)(d leaf:Nat):Nat→List (Nat × Nat)
 | 0=>[]
 | j+1=>((eN leaf (j+1)).filter fun p=>iX k d (leaf / 2^(j+1)) (p ^^^ 1)).map (fun p=>(leaf / 2^(j+1),p ^^^ 1))++Qg k d leaf j
def gA (k:BitVec 8)(d u:Nat):List (Nat × Nat):=(1,0)::if k=1#8 then(eN (2^d+u) d).map (fun p=>(p,0)) else Qg k d (2^d+u) d
def Yx (k:BitVec 8)(d u:Nat):List (Int × Int):=(gA k d u).map fun x=>((x.1:Int),(x.2:Int))
def sO (k:BitVec 8)(d u:Nat):List bZ:=(gA k d u).map fun x=>bZ.mk (x.1:Int) (x.2:Int)
def xO (k:BitVec 8)(d u:Nat):Bool:=
 decide (V7 ⟨k,(d:Int),(jK d:Int)⟩ (u:Int)=some (Yx k d u))&&decide (Uv ⟨k,(d:Int),0,zG⟩ (u:Int)=some (sO k d u))&&decide ((gA k d u).length≤100) &&
  (gA k d u).all fun x=>decide (1≤x.1∧x.1<128∧x.2<128)&&(decide (x.2=0)||(cJ x.2 x.1 && !decide (x.2=x.1)))
theorem Qq1:∀ d:Fin 7,(List.range (2^d.1)).all (fun u=>xO 1#8 d.1 u)=true:=by decide +kernel
theorem Qq2:∀ d:Fin 6,(List.range (2^d.1)).all (fun u=>xO 2#8 d.1 u)=true:=by decide +kernel
theorem Qq3:(List.range 64).all (fun u=>xO 2#8 6 u)=true:=by decide +kernel
theorem Qq4:∀ d:Fin 6,(List.range (2^d.1)).all (fun u=>xO 3#8 d.1 u)=true:=by decide +kernel
theorem Qq5:(List.range 64).all (fun u=>xO 3#8 6 u)=true:=by decide +kernel
theorem Qds {k:BitVec 8}(h1:1#8≤k)(h3:k≤3#8):k=1#8∨k=2#8∨k=3#8:=by
 have a:1≤k.toNat:=h1;have b:k.toNat≤3:=h3;rcases(show k.toNat=1∨k.toNat=2∨k.toNat=3 by omega) with h|h|h
 · exact .inl (BitVec.eq_of_toNat_eq h)
 · exact .inr (.inl (BitVec.eq_of_toNat_eq h))
 · exact .inr (.inr (BitVec.eq_of_toNat_eq h))
theorem Qq6 {k:BitVec 8}{d u:Nat}(h1:1#8≤k)(h3:k≤3#8)(hd:d≤6)(hu:u<2^d):xO k d u=true:=by
 have key:∀ {n:Nat} {f:Nat→Bool},(List.range n).all f=true→u<n→f u=true:=fun h hu=>List.all_eq_true.1 h u (List.mem_range.2 hu);rcases Qds h1 h3 with rfl|rfl|rfl
 · exact key (Qq1 ⟨d,by omega⟩) hu
 · rcases Nat.lt_or_ge d 6 with h|h
   · exact key (Qq2 ⟨d,h⟩) hu
   · obtain rfl:d=6:=by omega
     exact key Qq3 hu
 · rcases Nat.lt_or_ge d 6 with h|h
   · exact key (Qq4 ⟨d,h⟩) hu
   · obtain rfl:d=6:=by omega
     exact key Qq5 hu
theorem Qho {s:aF}(h:eO s=true):1#8≤s.Kind∧s.Kind≤3#8:=by
 unfold eO at h;have:=of_decide_eq_true h;exact⟨this.1,this.2.1⟩
theorem Qy4 {s:aF}{d:Nat}(h:eO s=true)(hd:s.Depth=(d:Int)):s=⟨s.Kind,(d:Int),0,zG⟩:=by
 unfold eO at h;have:=of_decide_eq_true h;cases s;simp only at *;rw[hd,this.2.2.2.2.1,this.2.2.2.2.2]
theorem Qdw {s:aF}{d u:Nat}(hv:eO s=true)(hd:s.Depth=(d:Int))(h6:d≤6)(hu:u<2^d):
 V7 ⟨s.Kind,(d:Int),(jK d:Int)⟩ (u:Int)=some (Yx s.Kind d u)∧Uv s (u:Int)=some (sO s.Kind d u)∧(gA s.Kind d u).length≤100∧
 ∀ x∈gA s.Kind d u,(1≤x.1∧x.1<128∧x.2<128)∧(x.2=0∨(cJ x.2 x.1=true∧x.2≠x.1)):=by
 obtain⟨k1,k3⟩:=Qho hv;have h:=Qq6 k1 k3 h6 hu;unfold xO at h;simp only[Bool.and_eq_true,decide_eq_true_eq,List.all_eq_true,Bool.or_eq_true,Bool.not_eq_true',decide_eq_false_iff_not] at h;refine⟨h.1.1.1,?_,h.1.2,h.2⟩;rw[Qy4 hv hd];exact h.1.1.2
end Go.Sx

end
section
namespace Go.Sx
open Go
def tF (k:W2)(n:Nat):W2:=if n%2=1 then cX k (aC 32#8) 0#64 else cX k (aC 31#8) 0#64
theorem Sn:∀ (l:List Nat) (k:W2),eS V1 A0 (l.map Int.ofNat) k=some (l.foldl tF k)
 | [],k=>rfl
 | a::l,k=>by
  rw[List.map_cons,rH];simp only[V1,A1];rw[show(Int.ofNat a)=(a:Int) from rfl,show(2:Int)=((2:Nat):Int) from rfl,Dm a 2 (by omega),bind_some,List.foldl_cons];unfold tF;by_cases h:a%2=1
  · rw[if_pos (by omega),if_pos h];exact Sn l _
  · rw[if_neg (by omega),if_neg h];exact Sn l _
theorem Sp {w k:Nat}(key:W2)(hw:w<9223372036854775808)(hk:2^k≤w)(hk2:k≤64):uK key ((w / 2^k:Nat):Int) (w:Int)=some ((eN w k).foldl tF key):=by
 unfold uK xQ;rw[bind_some];simp only;rw[Qez hw hk hk2,bind_some,Sn]
theorem Qwn (k:W2)(n:Nat):Ec k (n:Int)=some (tF k n):=by
 unfold Ec tF;rw[show(2:Int)=((2:Nat):Int) from rfl,Dm n 2 (by omega),bind_some];by_cases h:n%2=1
 · rw[if_neg (by omega),if_pos h]
 · rw[if_pos (by omega),if_neg h]
theorem Qao (v:Int)(l:List Nat)(hl:l.length≤1000):∀ (r:List Nat) (j f:Nat) (k:W2),j+r.length=l.length→l.drop j=r→r.length<f→aS (Dl (v::l.map Int.ofNat)) f (((j+1:Nat):Int),k)=some (r.foldl tF k)
 | r,j,0,k,_,_,h=>by omega
 | [],j,f+1,k,hj,hr,_=>by
  rw[eQ];simp only[Dl];rw[if_neg (by simp at hj ⊢;omega)];rfl
 | a::r,j,f+1,k,hj,hr,hf=>by
  rw[eQ];simp only[Dl];have hjl:j<l.length:=by simp at hj;omega
  have ha:l[j]=a:=by
   have:=List.drop_eq_getElem_cons hjl;rw[hr] at this;exact(List.cons.inj this).1.symm
  have hr':l.drop (j+1)=r:=by
   have:=List.drop_eq_getElem_cons hjl;rw[hr] at this;exact(List.cons.inj this).2.symm
  have hg:bG (v::l.map Int.ofNat) ((j+1:Nat):Int)=some (a:Int):=by
   rw[eG (by simp;omega)];simp only[List.getElem_cons_succ,List.getElem_map,ha];rfl
  rw[if_pos (by simp;omega),hg,bind_some,Qwn,bind_some,dO (by simp at hj;omega) (by simp at hj;omega),show((j+1:Nat):Int)+1=((j+1+1:Nat):Int) from by omega,List.foldl_cons];exact Qao v l hl r (j+1) f _ (by simp at hj ⊢;omega) hr' (by simp at hf;omega)
theorem Qan {w k:Nat}(key:W2)(hw:w<9223372036854775808)(hk:2^k≤w)(hk2:k≤64):Ea key ((w / 2^k:Nat):Int) (w:Int)=some ((eN w k).foldl tF key):=by
 unfold Ea;rw[Qg3 hw hk hk2,bind_some];exact Qao _ (eN w k) (by rw[G0];omega) (eN w k) 0 aI key (by omega) rfl (fI (by rw[G0];omega))
end Go.Sx

end
section
namespace Go.Sx
open Go
theorem Qcq {α:Type}(l:List α):(l.filter fun _=>true)=l:=List.filter_eq_self.2 (by simp)
theorem O9 {τ R:Type}(F:(τ→Option R)→τ→Option R)(I:Nat→τ→Prop)(n:Nat)(r:Option R)(hs:∀ j s,j<n→I j s→∃ s',I (j+1) s'∧∀ rec,F rec s=rec s')(he:∀ s,I n s→∀ rec,F rec s=r):
 ∀ (m j f:Nat) (s:τ),j+m=n→m<f→I j s→aS F f s=r
 | m,j,0,s,_,h,_=>by omega
 | 0,j,f+1,s,hj,_,hi=>by
  have:j=n:=by omega
  subst this;rw[eQ,he s hi]
 | m+1,j,f+1,s,hj,hf,hi=>by
  obtain⟨s',h1,h2⟩:=hs j s (by omega) hi;rw[eQ,h2];exact O9 F I n r hs he m (j+1) f s' (by omega) (by omega) h1
end Go.Sx

end
section
namespace Go.Sx
open Go
def qX (root:W2)(k:BitVec 8)(x:Nat × Nat):W2:=
 if x.2=0 then(if k=1#8 then cX root (aC 30#8) (wd (x.1:Int)) else cX root (aC 34#8) 0#64) else(eN x.2 (Nat.log2 x.2-Nat.log2 x.1)).foldl tF (cX root (aC 30#8) (wd (x.1:Int)))
def D7 (root:W2)(k:BitVec 8)(x:Nat × Nat):dP:=dP.mk (x.1:Int) (x.2:Int) (qX root k x)
def lQ (root:W2)(k:BitVec 8)(d u:Nat):List dP:=(gA k d u).map (D7 root k)
def C9 (x:Nat × Nat):Prop:=(1≤x.1∧x.1<128∧x.2<128)∧(x.2=0∨(cJ x.2 x.1=true∧x.2≠x.1))
theorem Bo {x:Nat × Nat}(h:C9 x)(h0:x.2≠0):∃ k,Nat.log2 x.2-Nat.log2 x.1=k+1∧x.1=x.2 / 2^(k+1)∧2^(k+1)≤x.2∧k≤6:=by
 rcases h.2 with h2|⟨h2,h3⟩
 · exact absurd h2 h0
 · obtain⟨k,e1,e2,e3⟩:=Z3 (by omega) h.1.1 h2 h3;have:=yQ e3 h.1.2.2;exact⟨k,e1,e2,e3,by omega⟩
theorem Qtu {root:W2}{s:aF}{d u:Nat}(ui:Int)(h:∀ x∈gA s.Kind d u,C9 x)(hl:(gA s.Kind d u).length≤100):
 eS (V0 root (dI s,0)) (K0 ui) (Yx s.Kind d u) []=some (bR.mk ui (lQ root s.Kind d u) (bX.mk 0#64 0#64),0):=by
 unfold Yx;rw[Qpl];refine(Yu 32 0 (fun _=>true) (D7 root s.Kind) _ _ _ _ (fun a ha nx l=>?_) (by simp;omega)).trans (by simp[K0,lQ,Qcq]);have hok:=h a ha;simp only[V0,E8,cond_true];by_cases h0:a.2=0
 · rw[if_pos (by omega)]
   have:uD (dI s) root (bZ.mk (a.1:Int) 0)=some (qX root s.Kind a):=by
    unfold uD qX uY;rw[if_pos h0,show(dI s).kind=s.Kind from rfl];by_cases hk:s.Kind=1#8
    · rw[if_pos hk,if_pos hk];rfl
    · rw[if_neg hk,if_neg hk,if_pos rfl]
   rw[this,bind_some];rfl
 · rw[if_neg (by omega)];obtain⟨k,e1,e2,e3,e4⟩:=Bo hok h0;unfold uY;rw[bind_some]
   have:uK (cX root (aC 30#8) (wd (a.1:Int))) (a.1:Int) (a.2:Int)=some (qX root s.Kind a):=by
    have:=Sp (cX root (aC 30#8) (wd (a.1:Int))) (w:=a.2) (k:=k+1) (by have:=hok.1.2.2;omega) e3 (by omega);rw[←e2] at this;rw[this,qX,if_neg h0,e1]
   rw[this,bind_some];rfl
theorem Qpr {root:W2}{s:aF}{x:Nat × Nat}(h:C9 x)(hk1:s.Kind=1#8→x.2=0):∃ k,Uu root s (bZ.mk (x.1:Int) (x.2:Int))=some k∧(x.2=0→k=qX root s.Kind x):=by
 unfold Uu qX;by_cases hk:s.Kind=1#8
 · rw[if_pos hk];exact⟨_,rfl,fun h0=>by rw[if_pos h0,if_pos hk]⟩
 · rw[if_neg hk];by_cases h0:x.2=0
   · rw[if_pos (by simp[h0])];exact⟨_,rfl,fun _=>by rw[if_pos h0,if_neg hk]⟩
   · rw[if_neg (by simp only;omega)];obtain⟨k,e1,e2,e3,e4⟩:=Bo h h0;unfold Xo;have:=Qan (cX root (aC 30#8) (wd (x.1:Int))) (w:=x.2) (k:=k+1) (by have:=h.1.2.2;omega) e3 (by omega);rw[←e2] at this;simp only;rw[this,bind_some,bind_some];exact⟨_,rfl,fun h=>absurd h h0⟩
theorem Qv2 {root:W2}{k':BitVec 8}{x:Nat × Nat}(h:C9 x)(h0:x.2≠0):Xo root (x.1:Int) (x.2:Int)=some (qX root k' x):=by
 obtain⟨k,e1,e2,e3,e4⟩:=Bo h h0;unfold Xo qX;have:=Qan (cX root (aC 30#8) (wd (x.1:Int))) (w:=x.2) (k:=k+1) (by have:=h.1.2.2;omega) e3 (by omega);rw[←e2] at this;rw[this,bind_some,if_neg h0,e1]
theorem Qdv {k:BitVec 8}{d u:Nat}(hk:k=1#8):∀ x∈gA k d u,x.2=0:=by
 intro x hx;unfold gA at hx;rw[if_pos hk] at hx;rcases List.mem_cons.1 hx with rfl|hx
 · rfl
 · obtain⟨p,_,rfl⟩:=List.mem_map.1 hx;rfl
theorem Qvb {root:W2}{s:aF}{d u:Nat}(ui:Int)(h:∀ x∈gA s.Kind d u,C9 x)(hl:(gA s.Kind d u).length≤100):
 aS (Xm root s ui (sO s.Kind d u)) aI (0,[])=some (bR.mk ui (lQ root s.Kind d u) (bX.mk 0#64 0#64)):=by
 have hls:(sO s.Kind d u).length=(gA s.Kind d u).length:=by simp[sO]
 have:=O8 (gA s.Kind d u) (Xm root s ui (sO s.Kind d u)) (fun j (acc:List dP)=>((j:Int),acc)) (fun a nx acc=>Option.bind (gG 32 acc [D7 root s.Kind a]) nx) (fun acc=>some (bR.mk ui acc (bX.mk 0#64 0#64)))
  (fun rec j hj acc=>by
   have hj':j<(sO s.Kind d u).length:=by omega
   have hg:(sO s.Kind d u)[j]=bZ.mk ((gA s.Kind d u)[j].1:Int) ((gA s.Kind d u)[j].2:Int):=by simp[sO]
   have hok:=h _ (List.getElem_mem hj);obtain⟨k,e1,e2⟩:=Qpr (root:=root) (s:=s) hok (fun hk=>Qdv hk _ (List.getElem_mem hj));simp only[Xm,Qfn,Uy];rw[if_pos (by omega),eG hj',bind_some,hg,e1,bind_some,bind_some];simp only[bind_some];by_cases h0:(gA s.Kind d u)[j].2=0
   · rw[if_neg (by omega),e2 h0,gR (by omega)];rfl
   · rw[if_pos (by omega),Qv2 (k':=s.Kind) hok h0,bind_some,gR (by omega)];rfl)
  (fun rec acc=>by simp only[Xm];rw[if_neg (by omega)]) (f:=aI) (fI (by omega)) ([]:List dP)
 rw[show((0:Nat):Int)=0 from rfl] at this;rw[this];exact(Yu 32 0 (fun _=>true) (D7 root s.Kind) _ _ _ _ (fun a _ nx l=>rfl) (by simp;omega)).trans (by simp[lQ,Qcq])
theorem Qfh {k:BitVec 8}{d:Nat}{st u:Int}(h:d≤6):xW ⟨k,(d:Int),st⟩ u=some (decide (0≤u∧u<((2^d:Nat):Int))):=by
 unfold xW;by_cases h0:(0:Int)≤u
 · rw[if_pos h0,Eu h,bind_some];congr 1;apply decide_eq_decide.2;omega
 · rw[if_neg h0];congr 1;symm;apply decide_eq_false;omega
theorem Qva {d:Nat}{u:Int}(h:d≤6):Eb (d:Int) u=some (decide (0≤u∧u<((2^d:Nat):Int))):=by
 unfold Eb;by_cases h0:(0:Int)≤u
 · rw[if_pos h0,Da h,bind_some];congr 1;apply decide_eq_decide.2;omega
 · rw[if_neg h0];congr 1;symm;apply decide_eq_false;omega
def Th:bR:=bR.mk 0 [] (bX.mk 0#64 0#64)
def vB (root:W2)(s:aF)(u:Int):bR × Int:=
 if eO s then(if 0≤u∧u<((2^s.Depth.toNat:Nat):Int) then(bR.mk u (lQ root s.Kind s.Depth.toNat u.toNat) (bX.mk 0#64 0#64),0) else(Th,2)) else(Th,30)
theorem Ie (root:W2)(s:aF)(u:Int):E7 root s u=some (vB root s u)∧Qfl root s u=some (vB root s u)∧(vB root s u).1.Labels.length≤100:=by
 unfold E7 Qfl vB;rw[Ft,Zu,bind_some,bind_some]
 cases hv:eO s with
 | false=>exact⟨rfl,rfl,by simp[Th]⟩
 | true=>
  obtain⟨d,hd,h6⟩:=Zv hv;have ht:dI s=⟨s.Kind,(d:Int),(jK d:Int)⟩:=by unfold dI;rw[hd,Int.toNat_natCast]
  simp only[if_true,Bool.not_true,cond_false];rw[if_neg (by simp),hd,Qva h6,Int.toNat_natCast];have e0:xW (dI s) u=some (decide (0≤u∧u<((2^d:Nat):Int))):=by rw[ht];exact Qfh h6
  rw[e0,bind_some,bind_some];by_cases hu:0≤u∧u<((2^d:Nat):Int)
  · rw[decide_eq_true hu,if_pos hu];simp only[Bool.not_true,cond_false];obtain⟨n,hn⟩:∃ n:Nat,u=(n:Int):=⟨u.toNat,by omega⟩;subst hn;obtain⟨e1,e2,e3,e4⟩:=Qdw (u:=n) hv hd h6 (by omega);unfold A6 Qfm;rw[bind_some];simp only;rw[Int.toNat_natCast,ht,e1,e2,bind_some,bind_some,←ht,Qtu _ e4 e3,Qvb _ e4 e3,bind_some];exact⟨rfl,rfl,by simpa[lQ] using e3⟩
  · rw[decide_eq_false hu,if_neg hu];exact⟨rfl,rfl,by simp[Th]⟩
end Go.Sx

end
section
namespace Go.Sx.Po
open Go
abbrev bn (n:Nat):BitVec 64:=BitVec.ofNat 64 n
theorem Z7 (x:BitVec 64):∃ n,n<18446744073709551616∧x=bn n:=⟨x.toNat,x.isLt,by simp[bn]⟩
theorem gU {n:Nat}(h:n<18446744073709551616):(bn n).toNat=n:=by rw[bn,BitVec.toNat_ofNat];exact Nat.mod_eq_of_lt h
theorem pD {a b:Nat}(ha:a<18446744073709551616)(hb:b<18446744073709551616):bn a=bn b↔a=b:=by
 constructor
 · intro h;rw[←gU ha,←gU hb,h]
 · intro h;rw[h]
theorem iK {a b:Nat}(ha:a<18446744073709551616)(hb:b<18446744073709551616):bn a<bn b↔a<b:=by rw[BitVec.lt_def,gU ha,gU hb]
theorem mO {a b:Nat}(ha:a<18446744073709551616)(hb:b<18446744073709551616):bn a≤bn b↔a≤b:=by rw[BitVec.le_def,gU ha,gU hb]
theorem qF (a b:Nat):bn a*bn b=bn (a*b):=by apply BitVec.eq_of_toNat_eq;simp[bn]
theorem Z6 (a b:Nat):bn a+bn b=bn (a+b):=by apply BitVec.eq_of_toNat_eq;simp[bn]
theorem Z8 {a b:Nat}(ha:a<18446744073709551616)(h:b≤a):bn a-bn b=bn (a-b):=by
 apply BitVec.eq_of_toNat_eq;rw[BitVec.toNat_sub,gU ha,gU (by omega),gU (by omega)];omega
theorem Qj8 (n:Nat)(h:n<18446744073709551616):bn n >>> 1=bn (n / 2):=by
 apply BitVec.eq_of_toNat_eq;rw[BitVec.toNat_ushiftRight,gU h,gU (by omega),Nat.shiftRight_eq_div_pow]
theorem Qj7 (n:Nat)(h:n<18446744073709551616):bn n &&& 1#64=bn (n%2):=by
 apply BitVec.eq_of_toNat_eq;rw[BitVec.toNat_and,gU h,gU (n:=n%2) (by omega)];exact Nat.and_one_is_mod n
theorem jD {a m:Nat}(ha:a<18446744073709551616)(hm:0<m)(hm2:m<18446744073709551616):gY (bn a) (bn m)=some (bn (a%m)):=by
 have:=Nat.mod_lt a hm;unfold gY;rw[if_neg (fun h=>by have:=(pD (b:=0) hm2 (by omega)).1 h;omega)];congr 1;apply BitVec.eq_of_toNat_eq;rw[BitVec.toNat_umod,gU ha,gU hm2,gU (by omega)]
theorem Qfa {a m:Nat}(ha:a<18446744073709551616)(hm:0<m)(hm2:m<18446744073709551616):Py (bn a) (bn m)=some (bn (a / m)):=by
 have:=Nat.div_le_self a m;unfold Py;rw[if_neg (fun h=>by have:=(pD (b:=0) hm2 (by omega)).1 h;omega)];congr 1;apply BitVec.eq_of_toNat_eq;rw[BitVec.toNat_udiv,gU ha,gU hm2,gU (by omega)]
def iI (n:Nat):Prop:=2≤n∧∀ e,2≤e→e*e≤n→n%e≠0
theorem Ub {n:Nat}(hn:n≤1048575)(T:Bool)(F:(BitVec 64→Option Bool)→BitVec 64→Option Bool)(hF:∀ rec a,F rec a=if a*a≤bn n then Option.bind (gY (bn n) a) fun x4=>if x4=0#64 then some false else rec (a+1#64) else some T):
 ∀ (m d f:Nat),d+m=1025→m<f→2≤d→∃ b,aS F f (bn d)=some b∧(b=true↔T=true∧∀ e,d≤e→e*e≤n→n%e≠0)
 | m,d,0,_,h,_=>by omega
 | 0,d,f+1,hd,_,h2=>by
  obtain rfl:d=1025:=by omega
  rw[eQ,hF,qF,if_neg (by rw[mO (by omega) (by omega)];omega)];refine⟨T,rfl,fun h=>⟨h,fun e he hen=>?_⟩,fun h=>h.1⟩;have:=Nat.mul_le_mul he he;omega
 | m+1,d,f+1,hd,hf,h2=>by
  have hdd:d*d≤1025*1025:=Nat.mul_le_mul (by omega) (by omega);rw[eQ,hF,qF];by_cases hle:d*d≤n
  · rw[if_pos ((mO (by omega) (by omega)).2 hle),jD (by omega) (by omega) (by omega),bind_some];by_cases hz:n%d=0
    · rw[hz,if_pos rfl];exact⟨false,rfl,(fun h=>by cases h),fun h=>absurd hz (h.2 d (Nat.le_refl _) hle)⟩
    · have hzn:¬ bn (n%d)=0#64:=fun h=>hz ((pD (b:=0) (by have:=Nat.mod_lt n (show 0<d by omega);omega) (by omega)).1 h);rw[if_neg hzn,show(1#64)=bn 1 from rfl,Z6];obtain⟨b,e1,e2⟩:=Ub hn T F hF m (d+1) f (by omega) (by omega) (by omega);refine⟨b,e1,?_⟩;rw[e2];refine and_congr_right fun _=>⟨fun h e he hen=>?_,fun h e he=>h e (by omega)⟩;rcases Nat.lt_or_ge d e with h'|h'
      · exact h e (by omega) hen
      · obtain rfl:e=d:=by omega
        exact hz
  · rw[if_neg (fun h=>hle ((mO (by omega) (by omega)).1 h))];refine⟨T,rfl,fun h=>⟨h,fun e he hen=>?_⟩,fun h=>h.1⟩;have:=Nat.mul_le_mul he he;omega
theorem Ps {n:Nat}(h64:n<18446744073709551616):∃ b,T9 (bn n)=some b∧(b=true↔n≤1048575∧iI n):=by
 unfold T9 Ql;by_cases h2:n<2
 · rw[if_pos ((iK h64 (b:=2) (by omega)).2 h2)];exact⟨false,rfl,(fun h=>by cases h),fun h=>by have:=h.2.1;omega⟩
 · rw[if_neg (fun h=>h2 ((iK h64 (b:=2) (by omega)).1 h))];by_cases hg:1048575<n
   · rw[decide_eq_true ((iK (a:=1048575) (by omega) h64).2 hg)];exact⟨false,rfl,(fun h=>by cases h),fun h=>by omega⟩
   · rw[decide_eq_false (fun h=>hg ((iK (a:=1048575) (by omega) h64).1 h)),cond_false];obtain⟨b,e1,e2⟩:=Ub (n:=n) (by omega) true (Qm (bn n)) (fun rec a=>rfl) 1023 2 aI (by omega) (fI (by omega)) (by omega);refine⟨b,e1,?_⟩;rw[e2];unfold iI;exact⟨fun h=>⟨by omega,by omega,h.2⟩,fun h=>⟨rfl,h.2.2⟩⟩
theorem Yt {n:Nat}(hn:n≤1048575):∃ b,Um (bn n)=some b∧(b=true↔iI n):=by
 obtain⟨b,e1,e2⟩:=Ub (n:=n) hn (decide (2#64≤bn n)) (Qfi (bn n)) (fun rec a=>rfl) 1023 2 aI (by omega) (fI (by omega)) (by omega);refine⟨b,e1,?_⟩;rw[e2,decide_eq_true_eq,show(2#64)=bn 2 from rfl,mO (by omega) (by omega)];rfl
theorem Qtt (x n:Nat):x^n=x^(n%2)*(x*x)^(n / 2):=by
 have:x^n=x^(n%2+2*(n / 2)):=by congr 1;omega
 rw[this,Nat.pow_add,Nat.pow_mul,Nat.pow_two]
theorem Qf6 {m x n o:Nat}:o*x^n%m=(if n%2=1 then o*x%m else o)*(x*x%m)^(n / 2)%m:=by
 rw[Qtt x n];rcases Nat.mod_two_eq_zero_or_one n with h|h
 · rw[h,if_neg (by omega),Nat.pow_zero,Nat.one_mul,Nat.mul_mod o ((x*x%m)^(n / 2)),←Nat.pow_mod,←Nat.mul_mod]
 · rw[h,if_pos rfl,Nat.pow_one,Nat.mul_mod (o*x%m),Nat.mod_mod,←Nat.pow_mod,←Nat.mul_mod,Nat.mul_assoc]
theorem Ua {m:Nat}(hm:0<m)(hm2:m<4294967296):∀ (k n x o f:Nat),n<2^k→k≤64→k<f→x<m→o<m→aS (yP (bn m)) f (bn x,bn n,bn o)=some (bn (o*x^n%m))
 | k,n,x,o,0,_,_,h,_,_=>by omega
 | 0,n,x,o,f+1,hn,_,_,hx,ho=>by
  obtain rfl:n=0:=by simp at hn;exact hn
  rw[eQ];simp only[yP];rw[if_neg (by decide),Nat.pow_zero,Nat.mul_one,Nat.mod_eq_of_lt ho]
 | k+1,n,x,o,f+1,hn,hk,hf,hx,ho=>by
  have hn64:n<18446744073709551616:=Nat.lt_of_lt_of_le hn (Nat.le_trans (Nat.pow_le_pow_right (by omega) hk) (by decide));have hxx:x*x<18446744073709551616:=Nat.lt_of_le_of_lt (Nat.mul_le_mul (Nat.le_of_lt hx) (Nat.le_of_lt hx)) (by have:=Nat.mul_lt_mul'' hm2 hm2;omega);have hox:o*x<18446744073709551616:=Nat.lt_of_le_of_lt (Nat.mul_le_mul (Nat.le_of_lt ho) (Nat.le_of_lt hx)) (by have:=Nat.mul_lt_mul'' hm2 hm2;omega);rw[eQ];simp only[yP];by_cases h0:n=0
  · subst h0;rw[if_neg (by decide),Nat.pow_zero,Nat.mul_one,Nat.mod_eq_of_lt ho]
  · rw[if_pos ((iK (a:=0) (by omega) hn64).2 (by omega)),Qj7 n hn64,show eK (un 1#64)=some 1 from by decide,qF,qF,jD hxx hm (by omega),jD hox hm (by omega),Qf6];simp only[bind_some];rw[Qj8 n hn64];have cP:n / 2<2^k:=by rw[Nat.pow_succ] at hn;omega
    have h1:=Nat.mod_lt (x*x) hm;have h2:=Nat.mod_lt (o*x) hm;by_cases hodd:n%2=1
    · rw[if_pos (by rw[hodd]),if_pos hodd];exact Ua hm hm2 k (n / 2) _ _ f cP (by omega) (by omega) h1 h2
    · rw[if_neg (fun h=>hodd ((pD (b:=1) (by omega) (by omega)).1 h)),if_neg hodd];exact Ua hm hm2 k (n / 2) _ _ f cP (by omega) (by omega) h1 ho
theorem My {b n m:Nat}(hb:b<18446744073709551616)(hn:n<18446744073709551616)(hm:0<m)(hm2:m<4294967296):T8 (bn b) (bn n) (bn m)=some (bn (b^n%m)):=by
 unfold T8;rw[show(1#64)=bn 1 from rfl,jD (by omega) hm (by omega),bind_some,jD hb hm (by omega),bind_some,Ua hm hm2 64 n _ _ aI (by omega) (by omega) (fI (by omega)) (Nat.mod_lt _ hm) (Nat.mod_lt _ hm),Nat.mod_mul_mod,Nat.one_mul,←Nat.pow_mod]
theorem Ei {m:Nat}(hm:0<m)(hm2:m<4294967296):∀ (k n x o f:Nat),n<2^k→k≤64→k<f→x<m→o<m→aS (Db (bn m)) f (bn n,bn o,bn x)=some (bn (o*x^n%m))
 | k,n,x,o,0,_,_,h,_,_=>by omega
 | 0,n,x,o,f+1,hn,_,_,hx,ho=>by
  obtain rfl:n=0:=by simp at hn;exact hn
  rw[eQ];simp only[Db];rw[if_neg (by decide),Nat.pow_zero,Nat.mul_one,Nat.mod_eq_of_lt ho]
 | k+1,n,x,o,f+1,hn,hk,hf,hx,ho=>by
  have hn64:n<18446744073709551616:=Nat.lt_of_lt_of_le hn (Nat.le_trans (Nat.pow_le_pow_right (by omega) hk) (by decide));have hxx:x*x<18446744073709551616:=Nat.lt_of_le_of_lt (Nat.mul_le_mul (Nat.le_of_lt hx) (Nat.le_of_lt hx)) (by have:=Nat.mul_lt_mul'' hm2 hm2;omega);have hox:o*x<18446744073709551616:=Nat.lt_of_le_of_lt (Nat.mul_le_mul (Nat.le_of_lt ho) (Nat.le_of_lt hx)) (by have:=Nat.mul_lt_mul'' hm2 hm2;omega);rw[eQ];simp only[Db];by_cases h0:n=0
  · subst h0;rw[if_neg (by decide),Nat.pow_zero,Nat.mul_one,Nat.mod_eq_of_lt ho]
  · unfold Up;rw[if_pos ((iK (a:=0) (by omega) hn64).2 (by omega)),show(2#64)=bn 2 from rfl,jD hn64 (by omega) (by omega),qF,qF,jD hxx hm (by omega),jD hox hm (by omega),Qfa hn64 (by omega) (by omega),Qf6];simp only[bind_some];have cP:n / 2<2^k:=by rw[Nat.pow_succ] at hn;omega
    have h1:=Nat.mod_lt (x*x) hm;have h2:=Nat.mod_lt (o*x) hm;by_cases hodd:n%2=1
    · rw[if_pos (by rw[hodd]),if_pos hodd];exact Ei hm hm2 k (n / 2) _ _ f cP (by omega) (by omega) h1 h2
    · rw[if_neg (fun h=>hodd ((pD (b:=1) (by omega) (by omega)).1 h)),if_neg hodd];exact Ei hm hm2 k (n / 2) _ _ f cP (by omega) (by omega) h1 ho
theorem Qv9 {b n m:Nat}(hb:b<18446744073709551616)(hn:n<18446744073709551616)(hm:0<m)(hm2:m<4294967296):Uo (bn b) (bn n) (bn m)=some (bn (b^n%m)):=by
 unfold Uo;rw[show(1#64)=bn 1 from rfl,jD (by omega) hm (by omega),bind_some,jD hb hm (by omega),bind_some,Ei hm hm2 64 n _ _ aI (by omega) (by omega) (fI (by omega)) (Nat.mod_lt _ hm) (Nat.mod_lt _ hm),Nat.mod_mul_mod,Nat.one_mul,←Nat.pow_mod]
end Go.Sx.Po

end
