/- Walks that follow mirrors: Xg. Printed by mx.py. -/
import Derived.Test.YtplcaaglieefgaaGreatXf
import Derived.Test.YtplcaaglieefgaaGreatZd
set_option linter.unusedVariables false
set_option linter.unusedSimpArgs false
set_option maxRecDepth 100000
set_option maxHeartbeats 2000000
namespace Go.Proofs.YtplcaaglieefgaaGreat.Mx
open Go Go.RowKit Go.Sx
theorem Bt:gG Tryz.prog 2 193 [.i .i64,.i .i64]:=uK Tryz.underlying193 (by kernel_rfl) jY (show mL _ 1 _ _ _ from(jQ (ks1:=[.i .i64]) (ks2:=[.i .i64]) rfl (by simp) (wU.up (by decide)) (jQ (ks1:=[.i .i64]) (ks2:=[]) rfl (by simp) (wU.up (by decide)) (uV _))))
theorem Bu:gG Tryz.prog 3 195 [.i .i64,.i .i64,.i .u8,.i .u8,.i .u8,.i .u8,.i .u8,.i .u8,.i .u8,.i .u8,.i .u8,.i .u8,.i .u8,.i .u8,.i .u8,.i .u8,.i .u8,.i .u8]:=uK Tryz.underlying195 (by kernel_rfl) hZ (show mL _ 2 _ _ _ from(jQ (ks1:=[.i .i64,.i .i64]) (ks2:=[.i .u8,.i .u8,.i .u8,.i .u8,.i .u8,.i .u8,.i .u8,.i .u8,.i .u8,.i .u8,.i .u8,.i .u8,.i .u8,.i .u8,.i .u8,.i .u8]) rfl (by simp) (Bt.up (by decide)) (jQ (ks1:=[.i .u8,.i .u8,.i .u8,.i .u8,.i .u8,.i .u8,.i .u8,.i .u8,.i .u8,.i .u8,.i .u8,.i .u8,.i .u8,.i .u8,.i .u8,.i .u8]) (ks2:=[]) rfl (by simp) (Qi.up (by decide)) (uV _))))
theorem Ce:lR Tryz.prog 195 [.i .i64,.i .i64,.i .u8,.i .u8,.i .u8,.i .u8,.i .u8,.i .u8,.i .u8,.i .u8,.i .u8,.i .u8,.i .u8,.i .u8,.i .u8,.i .u8,.i .u8,.i .u8]:=⟨by kernel_rfl,hZ,3,by decide,Bu⟩
theorem Ca:gG Tryz.prog 2 65 [.i .u64,.i .u64]:=uK Tryz.underlying65 (by kernel_rfl) fH (show mL _ 1 _ _ _ from(jQ (ks1:=[.i .u64]) (ks2:=[.i .u64]) rfl (by simp) (wM.up (by decide)) (jQ (ks1:=[.i .u64]) (ks2:=[]) rfl (by simp) (wM.up (by decide)) (uV _))))
theorem Cg:lR Tryz.prog 65 [.i .u64,.i .u64]:=⟨by kernel_rfl,fH,2,by decide,Ca⟩
theorem Qb3 {p0 r}(hm:Dv p0=some r){w:World}:
 Calls Tryz.prog 160 [.agg (cX.cs p0).toArray].toArray w fun e w'=>∃ v,e=.returned v∧(v=.bool r∧Gr w w'):=by
 unfold Dv at hm;refine bN 84 Tryz.func160 rfl rfl rfl<|qs 2 rfl<|qe rfl (bH (cs:=cX.cs p0) rfl rfl) ?_;rintro _ w1 ⟨b1,rfl,m,c,G1⟩;have z1:=G1.size;have n:=c.lt;refine qm rfl<|aQ<|aP ?_;have X3:=((Gr.refl w).trans G1);refine qj (β:=Bool) (rg 3 31) (fun a1=>[(33,.bool a1)]) (fun a1 wr=>(sD p0 a1=some r)∧Kz [] w1 wr) ?_ ?_
 · refine qg 31 rfl<|qv rfl (aY jZ rfl)<|qv rfl (aT (v:=.int .i64 p0.Word) bV rfl c rfl)<|qv rfl (cU (a:=p0.Word) (b:=1) rfl rfl)<|cY hm rfl (aA rfl) (fun c9 hm=>?_) (fun c9 hm=>?_)
   · refine qn 7 rfl ?_;refine qn 7 rfl ?_;refine qn 7 rfl ?_;refine qn 6 rfl<|aH ?_;exact⟨rfl,true,aW,hm,bX⟩
   refine qv rfl (aY jZ rfl)<|qv rfl (aT (v:=.int .i64 p0.Word) bV rfl c rfl)<|qv rfl (eA (a:=p0.Word) (b:=1000) rfl rfl)<|qm rfl<|cY hm rfl (aA rfl) (fun f hm=>?_) (fun f hm=>?_)
   · refine qn 7 rfl ?_;refine qn 7 rfl ?_;refine qn 7 rfl ?_;refine qm rfl<|aH ?_;exact⟨rfl,true,aW,hm,bX⟩
   refine qv rfl (aY jW rfl)<|qv rfl (aT (v:=.int .i64 p0.Epoch) bV rfl c rfl)<|qv rfl (aY jZ rfl)<|qv rfl (aT (v:=.int .i64 p0.Word) bV rfl c rfl)<|qv rfl (cU (a:=p0.Epoch) (b:=p0.Word) rfl rfl)<|qm rfl<|cY hm rfl (aA rfl) (fun g hm=>?_) (fun g hm=>?_)
   · refine qn 7 rfl ?_;refine qn 7 rfl ?_;refine qm rfl<|aH ?_;exact⟨rfl,true,aW,hm,bX⟩
   refine qv rfl (aY jW rfl)<|qv rfl (aT (v:=.int .i64 p0.Epoch) bV rfl c rfl)<|qv rfl (aY jZ rfl)<|qv rfl (aT (v:=.int .i64 p0.Word) bV rfl c rfl)<|qv rfl (hX (k:=.i64) (a:=1000) (b:=p0.Word) rfl rfl)<|qv rfl (eA (a:=p0.Epoch) (b:=aS (1000*p0.Word)) rfl rfl)<|qm rfl ?_;refine cY hm rfl (aA rfl) (fun h hm=>?_) (fun h hm=>?_)
   · refine qn 7 rfl ?_;refine aH ?_;exact⟨rfl,true,aW,hm,bX⟩
   refine qv rfl (aY jW rfl)<|qv rfl (aT (v:=.int .i64 p0.Epoch) bV rfl c rfl)<|qv rfl (aY jZ rfl)<|qv rfl (aT (v:=.int .i64 p0.Word) bV rfl c rfl) ?_;obtain⟨x3,i,hm⟩:=aJ hm;refine qv rfl (kP (a:=p0.Epoch) (b:=p0.Word) rfl rfl i)<|qv rfl (cP (a:=x3) (b:=0) rfl rfl)<|qm rfl<|aH ?_;exact⟨rfl,(decide (x3≠0)),aW,hm,bX⟩
 clear hm;rintro a1 w2 ⟨hm,K2⟩;have z4:=K2.size;unfold sD at hm;refine cR hm rfl (fun c1 hm=>?_) (fun c1 hm=>?_)
 · refine qs 1 rfl<|qm rfl<|qb ?_;have X5:=(X3.kz K2);cases hm;exact⟨_,_,rfl,bZ rfl (aN rfl),rfl,X5⟩
 refine qu<|aP ?_;have X6:=(X3.kz K2);refine qj (β:=Bool) (rg 34 30) (fun a2=>[(63,.bool a2)]) (fun a2 wr=>(pA p0 a2=some r)∧Kz [] w2 wr) ?_ ?_
 · refine qg 30 rfl<|qv rfl (aY rC rfl) ?_;have d:=(c.kz K2);refine qv rfl (aT (v:=.int .i64 p0.Early) bV rfl d rfl)<|qv rfl (cU (a:=p0.Early) (b:=0) rfl rfl)<|cY hm rfl (aA rfl) (fun c4 hm=>?_) (fun c4 hm=>?_)
   · refine qn 7 rfl ?_;refine qn 7 rfl ?_;refine qn 7 rfl ?_;refine qn 5 rfl<|aH ?_;exact⟨rfl,true,aW,hm,bX⟩
   refine qv rfl (aY kF rfl)<|qv rfl (aT (v:=.int .i64 p0.Drift) bV rfl d rfl)<|qv rfl (cU (a:=p0.Drift) (b:=0) rfl rfl)<|qm rfl<|cY hm rfl (aA rfl) (fun c5 hm=>?_) (fun c5 hm=>?_)
   · refine qn 7 rfl ?_;refine qn 7 rfl ?_;refine qn 7 rfl ?_;refine aH ?_;exact⟨rfl,true,aW,hm,bX⟩
   refine qv rfl (aY nO rfl)<|qv rfl (aT (v:=.int .i64 p0.Delay) bV rfl d rfl)<|qv rfl (cU (a:=p0.Delay) (b:=0) rfl rfl)<|qm rfl<|cY hm rfl (aA rfl) (fun c6 hm=>?_) (fun c6 hm=>?_)
   · refine qn 7 rfl ?_;refine qn 7 rfl ?_;refine qn 2 rfl<|aH ?_;exact⟨rfl,true,aW,hm,bX⟩
   refine qv rfl (aY rC rfl)<|qv rfl (aT (v:=.int .i64 p0.Early) bV rfl d rfl)<|qv rfl (aY jW rfl)<|qv rfl (aT (v:=.int .i64 p0.Epoch) bV rfl d rfl)<|qv rfl (eA (a:=p0.Early) (b:=p0.Epoch) rfl rfl)<|qm rfl<|cY hm rfl (aA rfl) (fun c7 hm=>?_) (fun c7 hm=>?_)
   · refine qn 7 rfl ?_;refine qn 2 rfl<|aH ?_;exact⟨rfl,true,aW,hm,bX⟩
   refine qv rfl (aY kF rfl)<|qv rfl (aT (v:=.int .i64 p0.Drift) bV rfl d rfl)<|qv rfl (eA (a:=p0.Drift) (b:=3000) rfl rfl)<|qm rfl<|cY hm rfl (aA rfl) (fun c8 hm=>?_) (fun c8 hm=>?_)
   · refine qn 4 rfl<|aH ?_;exact⟨rfl,true,aW,hm,bX⟩
   refine qv rfl (aY nO rfl)<|qv rfl (aT (v:=.int .i64 p0.Delay) bV rfl d rfl)<|qv rfl (eA (a:=p0.Delay) (b:=3000) rfl rfl)<|qm rfl<|aH ?_;exact⟨rfl,(decide ((3000:Int)<p0.Delay)),aW,hm,bX⟩
 clear hm;rintro a2 w3 ⟨hm,K3⟩;have z7:=K3.size;unfold pA at hm;refine cR hm rfl (fun c2 hm=>?_) (fun c2 hm=>?_)
 · refine qs 1 rfl<|qm rfl<|qb ?_;have X8:=(X6.kz K3);cases hm;exact⟨_,_,rfl,bZ rfl (aN rfl),rfl,X8⟩
 refine qu<|qs 21 rfl<|qv rfl (aY kF rfl) ?_;have B9:=((c.kz K2).kz K3);refine qv rfl (aT (v:=.int .i64 p0.Drift) bV rfl B9 rfl)<|qv rfl (hX (k:=.i64) (a:=2) (b:=p0.Drift) rfl rfl)<|qv rfl (aY nO rfl)<|qv rfl (aT (v:=.int .i64 p0.Delay) bV rfl B9 rfl)<|qv rfl (cC (k:=.i64) (a:=aS (2*p0.Drift)) (b:=p0.Delay) rfl rfl)<|qv rfl (aY jZ rfl)<|qv rfl (aT (v:=.int .i64 p0.Word) bV rfl B9 rfl) ?_;refine qv rfl (hX (k:=.i64) (a:=3) (b:=p0.Word) rfl rfl)<|qv rfl (cU (a:=aS ((aS (2*p0.Drift))+p0.Delay)) (b:=aS (3*p0.Word)) rfl rfl)<|eY hm rfl (aA rfl) (fun c3 hm=>?_) (fun c3 hm=>?_)
 · refine qn 7 rfl ?_;refine qn 3 rfl<|aQ<|aB ?_;have j:=(X6.kz K3);cases hm;exact⟨_,_,rfl,bZ rfl (aN rfl),rfl,j⟩
 refine qv rfl (aY rC rfl)<|qv rfl (aT (v:=.int .i64 p0.Early) bV rfl B9 rfl)<|qv rfl (aY nO rfl)<|qv rfl (aT (v:=.int .i64 p0.Delay) bV rfl B9 rfl)<|qv rfl (cC (k:=.i64) (a:=p0.Early) (b:=p0.Delay) rfl rfl)<|qv rfl (aY jW rfl)<|qv rfl (aT (v:=.int .i64 p0.Epoch) bV rfl B9 rfl) ?_;refine qv rfl (lQ (a:=aS (p0.Early+p0.Delay)) (b:=p0.Epoch) rfl rfl)<|qn 2 rfl<|aQ<|aB ?_;have l:=(X6.kz K3);cases hm;exact⟨_,_,rfl,bZ rfl (aN rfl),rfl,l⟩
theorem Qb2 {p0 p1 f u x y g z A B j C D E m F G H r}(hm:Du p0 p1=some r){w:World}(o:Rd w u x y 18 f (p0.Items.map bU.cs))(p:Rd w z A B 2 g (p0.Points.map aI.cs))(q:Rd w C D E 18 j (p1.Items.map bU.cs))(s:Rd w F G H 2 m (p1.Points.map aI.cs)):
 Calls Tryz.prog 70 [.agg (aF.cs p0 f g).toArray,.agg (aF.cs p1 j m).toArray].toArray w fun e w'=>∃ v,e=.returned v∧(v=.bool r∧Gr w w'):=by
 have ax:=o.lth;have ay:=p.lth;have az:=q.lth;have aE:=s.lth;unfold Du at hm;refine bN 80 Tryz.func70 rfl rfl rfl<|qs 3 rfl<|qe rfl (bH (cs:=aF.cs p0 f g) rfl rfl) ?_;rintro _ w1 ⟨b1,rfl,ar,I,G1⟩;have z5:=G1.size;have a0:=I.lt;refine qe rfl (bH (cs:=aF.cs p1 j m) rfl rfl) ?_;rintro _ w2 ⟨b2,rfl,au,n,G2⟩;have z7:=G2.size;have a2:=n.lt;refine qm rfl<|aQ<|aP ?_;have Y1:=Gr.trans G1 G2;have X9:=((Gr.refl w).trans Y1);refine qj (β:=Bool) (rg 7 37) (fun a1=>[(43,.bool a1)]) (fun a1 wr=>(sP p0 p1 a1=some r)∧Kz [] w2 wr) ?_ ?_
 · refine qg 37 rfl<|qv rfl (aY hU rfl) ?_;have t:=(I.gr G2);refine qv rfl (aT (v:=f) gI rfl t rfl) ?_;have aa:=(o.gr Y1);refine qv rfl (cB (l:=p0.Items) (c:=bU.cs) Tryz.underlying50 rfl aa)<|qv rfl (aY hU rfl)<|qv rfl (aT (v:=j) gI rfl n rfl) ?_;have ab:=(q.gr Y1);refine qv rfl (cB (l:=p1.Items) (c:=bU.cs) Tryz.underlying50 rfl ab)<|qv rfl (cP (a:=(p0.Items.length:Int)) (b:=(p1.Items.length:Int)) rfl rfl)<|cY hm rfl (aA rfl) (fun c6 hm=>?_) (fun c6 hm=>?_)
   · refine qn 7 rfl ?_;refine qn 7 rfl ?_;refine qn 7 rfl ?_;refine qn 7 rfl ?_;refine qm rfl<|aH ?_;exact⟨rfl,true,aW,hm,bX⟩
   refine qv rfl (aY gJ rfl)<|qv rfl (aT (v:=g) gX rfl t rfl) ?_;have ac:=(p.gr Y1);refine qv rfl (cB (l:=p0.Points) (c:=aI.cs) Tryz.underlying51 rfl ac)<|qv rfl (aY gJ rfl)<|qv rfl (aT (v:=m) gX rfl n rfl) ?_;have ad:=(s.gr Y1);refine qv rfl (cB (l:=p1.Points) (c:=aI.cs) Tryz.underlying51 rfl ad)<|qv rfl (cP (a:=(p0.Points.length:Int)) (b:=(p1.Points.length:Int)) rfl rfl)<|qm rfl<|cY hm rfl (aA rfl) (fun c7 hm=>?_) (fun c7 hm=>?_)
   · refine qn 7 rfl ?_;refine qn 7 rfl ?_;refine qn 6 rfl<|aH ?_;exact⟨rfl,true,aW,hm,bX⟩
   refine qv rfl (aY mK rfl)<|qv rfl (aT (v:=wv p0.Base) cQ rfl t rfl)<|qv rfl (aY mK rfl)<|qv rfl (aT (v:=wv p1.Base) cQ rfl n rfl)<|qv rfl (S9 (c:=p0.Base) (d:=p1.Base) rfl rfl)<|qm rfl<|cY hm rfl (aA rfl) (fun c8 hm=>?_) (fun c8 hm=>?_)
   · refine qn 7 rfl ?_;refine qn 6 rfl<|aH ?_;exact⟨rfl,true,aW,hm,bX⟩
   refine qv rfl (aY mV rfl)<|qv rfl (dV (vs:=kb p0.Box) aO rfl t rfl rfl)<|qv rfl (aY mV rfl)<|qv rfl (dV (vs:=kb p1.Box) aO rfl n rfl rfl)<|qv rfl (mT (cf:=kb) (a:=p0.Box) (b:=p1.Box) mE rfl rfl rfl rfl (fun h=>kB h))<|qm rfl<|cY hm rfl (aA rfl) (fun c9 hm=>?_) (fun c9 hm=>?_)
   · refine qn 6 rfl<|aH ?_;exact⟨rfl,true,aW,hm,bX⟩
   refine qv rfl (aY mI rfl)<|qv rfl (dV (vs:=kb p0.Check) aO rfl t rfl rfl)<|qv rfl (aY mI rfl)<|qv rfl (dV (vs:=kb p1.Check) aO rfl n rfl rfl)<|qv rfl (mT (cf:=kb) (a:=p0.Check) (b:=p1.Check) mE rfl rfl rfl rfl (fun h=>kB h))<|qm rfl<|aH ?_;exact⟨rfl,(decide (p0.Check≠p1.Check)),aW,hm,bX⟩
 clear hm;rintro a1 w3 ⟨hm,K3⟩;have a4:=K3.size;unfold sP at hm;refine cR hm rfl (fun c1 hm=>?_) (fun c1 hm=>?_)
 · refine qs 1 rfl<|qm rfl<|qb ?_;have ae:=(X9.kz K3);cases hm;exact⟨_,_,rfl,bZ rfl (aN rfl),rfl,ae⟩
 refine qu<|aP<|qs 1 rfl<|qm rfl<|aQ ?_;refine bB ?_;have M:=(X9.kz K3);have af:=((o.gr Y1).kz K3);have ag:=((p.gr Y1).kz K3);have N:=((q.gr Y1).kz K3);have ah:=((s.gr Y1).kz K3);refine dR (α:=Nat × Int) ([4,5]++rg 44 18) (fun⟨n2,a3⟩=>[(4,.bool false),(5,.int .i64 a3)]) (fun⟨n2,a3⟩ wr=>(bP (N8 p0 p1) n2 a3=some r)∧Kz [] w3 wr) (fun⟨n2,a3⟩=>n2) ⟨bA,0⟩ ?_ ?_ ?_
 · exact aW
 · exact⟨hm,Kz.refl _ _⟩
 clear hm;rintro⟨n2,a3⟩ w4 ⟨hm,K4⟩;have a5:=K4.size;have hb:=dC hm;clear hm;obtain⟨n2,rfl,hm⟩:=hb;generalize J:bP (N8 p0 p1) n2=av at hm;unfold N8 at hm;try dsimp only at hm
 refine aP<|qs 5 rfl<|qm rfl<|qv rfl (aY hU rfl) ?_;have K:=(((I.gr G2).kz K3).kz K4);refine qv rfl (aT (v:=f) gI rfl K rfl) ?_;have O:=(af.kz K4);refine qv rfl (cB (l:=p0.Items) (c:=bU.cs) Tryz.underlying50 rfl O)<|qv rfl (cU (a:=a3) (b:=(p0.Items.length:Int)) rfl rfl)<|aQ<|cS hm rfl (fun c2 hm=>?_) (fun c2 hm=>?_)
 · refine qu<|aP<|bB<|aP<|dw [([])] [] (.leaf [(0,10),(1,10),(2,10),(3,10),(4,10),(5,10),(6,10),(7,10),(8,10),(9,10),(10,10)]) ?_;intro w5 G5 a6;refine bW<|dh 0 rfl rfl (fun w hS=>aY hU rfl) ?_;have ai:=(K.gr G5);refine dh 0 rfl rfl (fun w hS=>aT (v:=f) gI rfl (Bx.kp ai hS) rfl)<|dm 0 rfl rfl ?_;obtain⟨y4,P,hm⟩:=aJ hm;have Q:=(O.gr G5);refine dh 0 rfl rfl (fun w hS=>fK (i:=a3) Tryz.underlying50 (hZ).siz rfl (Rd.kp Q hS) rfl P)<|dh 0 rfl rfl (fun w hS=>iN hZ rfl (Rd.kp Q hS) P (by first|rfl|omega))<|dh 0 rfl rfl (fun w hS=>aY hU rfl) ?_
   have aj:=(((n.kz K3).kz K4).gr G5);refine dh 0 rfl rfl (fun w hS=>aT (v:=j) gI rfl (Bx.kp aj hS) rfl)<|dm 0 rfl rfl ?_;obtain⟨y5,R,hm⟩:=aJ hm;have S:=((N.kz K4).gr G5);refine dh 0 rfl rfl (fun w hS=>fK (i:=a3) Tryz.underlying50 (hZ).siz rfl (Rd.kp S hS) rfl R)<|dh 0 rfl rfl (fun w hS=>iN hZ rfl (Rd.kp S hS) R (by first|rfl|omega))<|dh 0 rfl rfl (fun w hS=>mT (cf:=bU.cs) (a:=y4) (b:=y5) Ce rfl rfl rfl rfl (fun h=>bU.cs_inj h))<|aQ<|cS hm rfl (fun c3 hm=>?_) (fun c3 hm=>?_)
   · refine qs 1 rfl<|qm rfl<|aQ<|aB<|cE<|bM ?_;refine bM<|cE<|bM ?_;have ak:=((M.kz K4).trans G5);cases hm;exact⟨_,_,rfl,bZ rfl (aN rfl),rfl,ak⟩
   refine fJ<|cH<|bO<|qg 3 rfl<|qm rfl<|qv rfl (cC (k:=.i64) (a:=a3) (b:=1) rfl rfl)<|qm rfl ?_;refine aH ?_;have K_25:Kz [] w3 w5:=(K4.gr G5);subst J;exact⟨rfl,⟨n2,aS (a3+1)⟩,aW,⟨hm,K_25⟩,Nat.lt_succ_self _⟩
 refine dK<|bE<|bE<|dJ<|bO<|aP<|aP ?_;refine qg 1 rfl<|qm rfl<|aQ<|bB ?_;have T:=(M.kz K4);have al:=(ag.kz K4);have a8:=(N.kz K4);have am:=(ah.kz K4);refine dR (α:=Nat × Int) ([4,6]++rg 62 18) (fun⟨n3,a7⟩=>[(4,.bool false),(6,.int .i64 a7)]) (fun⟨n3,a7⟩ wr=>(bP (N9 p0 p1) n3 a7=some r)∧Kz [] w4 wr) (fun⟨n3,a7⟩=>n3) ⟨bA,0⟩ ?_ ?_ ?_
 · exact aW
 · exact⟨hm,Kz.refl _ _⟩
 clear hm;rintro⟨n3,a7⟩ w6 ⟨hm,K6⟩;have a9:=K6.size;have hb:=dC hm;clear hm;obtain⟨n3,rfl,hm⟩:=hb;generalize L:bP (N9 p0 p1) n3=aw at hm;unfold N9 at hm;try dsimp only at hm
 refine aP<|qs 5 rfl<|qm rfl<|qv rfl (aY gJ rfl) ?_;have U:=(K.kz K6);refine qv rfl (aT (v:=g) gX rfl U rfl) ?_;have V:=(al.kz K6);refine qv rfl (cB (l:=p0.Points) (c:=aI.cs) Tryz.underlying51 rfl V)<|qv rfl (cU (a:=a7) (b:=(p0.Points.length:Int)) rfl rfl)<|aQ<|dA hm rfl (fun c4 hm=>?_) (fun c4 hm=>?_)
 · refine dK<|bE<|bE<|dJ<|bO<|qs 1 rfl ?_;refine qm rfl<|aQ<|aB ?_;have an:=(T.kz K6);cases hm;exact⟨_,_,rfl,bZ rfl (aN rfl),rfl,an⟩
 refine qu<|aP<|bB<|aP<|dw [([])] [] (.leaf [(0,10),(1,10),(2,10),(3,10),(4,10),(5,10),(6,10),(7,10),(8,10),(9,10),(10,10)]) ?_;intro w7 G7 ba;refine bW<|dh 0 rfl rfl (fun w hS=>aY gJ rfl) ?_;have ao:=(U.gr G7);refine dh 0 rfl rfl (fun w hS=>aT (v:=g) gX rfl (Bx.kp ao hS) rfl)<|dm 0 rfl rfl ?_;obtain⟨y8,W,hm⟩:=aJ hm;have X:=(V.gr G7);refine dh 0 rfl rfl (fun w hS=>fK (i:=a7) Tryz.underlying51 (fH).siz rfl (Rd.kp X hS) rfl W)<|dh 0 rfl rfl (fun w hS=>iN fH rfl (Rd.kp X hS) W (by first|rfl|omega))<|dh 0 rfl rfl (fun w hS=>aY gJ rfl) ?_
 have ap:=((((n.kz K3).kz K4).kz K6).gr G7);refine dh 0 rfl rfl (fun w hS=>aT (v:=m) gX rfl (Bx.kp ap hS) rfl)<|dm 0 rfl rfl ?_;obtain⟨y9,Y,hm⟩:=aJ hm;have Z:=((am.kz K6).gr G7);refine dh 0 rfl rfl (fun w hS=>fK (i:=a7) Tryz.underlying51 (fH).siz rfl (Rd.kp Z hS) rfl Y)<|dh 0 rfl rfl (fun w hS=>iN fH rfl (Rd.kp Z hS) Y (by first|rfl|omega))<|dh 0 rfl rfl (fun w hS=>mT (cf:=aI.cs) (a:=y8) (b:=y9) Cg rfl rfl rfl rfl (fun h=>aI.cs_inj h))<|aQ<|cS hm rfl (fun c5 hm=>?_) (fun c5 hm=>?_)
 · refine qs 1 rfl<|qm rfl<|aQ<|aB<|cE<|bM ?_;refine bM<|cE<|bM ?_;have aq:=((T.kz K6).trans G7);cases hm;exact⟨_,_,rfl,bZ rfl (aN rfl),rfl,aq⟩
 refine fJ<|cH<|bO<|qg 3 rfl<|qm rfl<|qv rfl (cC (k:=.i64) (a:=a7) (b:=1) rfl rfl)<|qm rfl ?_;refine aH ?_;have K_38:Kz [] w4 w7:=(K6.gr G7);subst L;exact⟨rfl,⟨n3,aS (a7+1)⟩,aW,⟨hm,K_38⟩,Nat.lt_succ_self _⟩
theorem Qb1 {p0 p1 f s t u g x y z h A B C d n o p r}(hm:Dt p0 p1=some r){w:World}(j:Rd w s t u 18 f (p0.Labels.map cT.cs))(k:Rd w x y z 18 g (p1.Head.Items.map bU.cs))(m:Rd w A B C 2 h (p1.Head.Points.map aI.cs))(i:Rd w n o p 1 d (p1.Data.map bF)):
 Calls Tryz.prog 27 [.agg (bG.cs p0 f).toArray,.agg (aL.cs p1 g h d).toArray].toArray w fun e w'=>∃ v,e=.returned v∧(v=.bool r∧Gr w w'):=by
 have O:=j.lth;have P:=k.lth;have Q:=m.lth;have R:=i.lth;unfold Dt at hm;refine bN 29 Tryz.func27 rfl rfl rfl<|qs 3 rfl<|qe rfl (bH (cs:=bG.cs p0 f) rfl rfl) ?_;rintro _ w1 ⟨b1,rfl,M,D,G1⟩;have z5:=G1.size;have S:=D.lt;refine qe rfl (bH (cs:=aL.cs p1 g h d) rfl rfl) ?_;rintro _ w2 ⟨b2,rfl,N,q,G2⟩;have z7:=G2.size;have T:=q.lt;refine qm rfl<|qd 25 rfl<|qv rfl (aY uT rfl) ?_;have B9:=(D.gr G2);refine qv rfl (aT (v:=f) sJ rfl B9 rfl) ?_;have Y1:=Gr.trans G1 G2;have E:=(j.gr Y1);refine qv rfl (cB (l:=p0.Labels) (c:=cT.cs) Tryz.underlying63 rfl E)<|qv rfl (eA (a:=(p0.Labels.length:Int)) (b:=100) rfl rfl)<|cY hm rfl (aA rfl) (fun c1 hm=>?_) (fun c1 hm=>?_)
 · refine qn 7 rfl ?_;refine qn 7 rfl ?_;refine qn 6 rfl<|aQ ?_;refine aB ?_;have F:=((Gr.refl w).trans Y1);cases hm;exact⟨_,_,rfl,bZ rfl (aN rfl),rfl,F⟩
 refine qv rfl (aY fN rfl)<|qv rfl (aY hU rfl)<|qv rfl (aT (v:=g) gI rfl q rfl) ?_;have G:=(k.gr Y1);refine qv rfl (cB (l:=p1.Head.Items) (c:=bU.cs) Tryz.underlying50 rfl G)<|qv rfl (eA (a:=(p1.Head.Items.length:Int)) (b:=100) rfl rfl)<|qm rfl<|cY hm rfl (aA rfl) (fun c2 hm=>?_) (fun c2 hm=>?_)
 · refine qn 7 rfl ?_;refine qn 6 rfl<|aQ ?_;refine aB ?_;have H:=((Gr.refl w).trans Y1);cases hm;exact⟨_,_,rfl,bZ rfl (aN rfl),rfl,H⟩
 refine qv rfl (aY fN rfl)<|qv rfl (aY gJ rfl)<|qv rfl (aT (v:=h) gX rfl q rfl) ?_;have I:=(m.gr Y1);refine qv rfl (cB (l:=p1.Head.Points) (c:=aI.cs) Tryz.underlying51 rfl I)<|qv rfl (eA (a:=(p1.Head.Points.length:Int)) (b:=50) rfl rfl)<|qm rfl<|cY hm rfl (aA rfl) (fun c3 hm=>?_) (fun c3 hm=>?_)
 · refine qn 6 rfl<|aQ ?_;refine aB ?_;have J:=((Gr.refl w).trans Y1);cases hm;exact⟨_,_,rfl,bZ rfl (aN rfl),rfl,J⟩
 refine qv rfl (aY pS rfl)<|qv rfl (aT (v:=d) gW rfl q rfl) ?_;have K:=(i.gr Y1);refine qv rfl (cB (l:=p1.Data) (c:=bF) Tryz.underlying54 rfl K)<|qv rfl (eA (a:=(p1.Data.length:Int)) (b:=1000) rfl rfl)<|qn 2 rfl<|aQ<|aB ?_;have L:=((Gr.refl w).trans Y1);cases hm;exact⟨_,_,rfl,bZ rfl (aN rfl),rfl,L⟩
end Go.Proofs.YtplcaaglieefgaaGreat.Mx
