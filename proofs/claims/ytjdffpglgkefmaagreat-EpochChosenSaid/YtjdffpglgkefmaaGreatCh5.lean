/- Walks that follow mirrors: Ch5. Printed by mx.py. -/
import Derived.Test.YtjdffpglgkefmaaGreatXg
import Derived.Test.YtjdffpglgkefmaaGreatZd
set_option linter.unusedVariables false
set_option linter.unusedSimpArgs false
set_option maxRecDepth 100000
set_option maxHeartbeats 2000000
namespace Go.Proofs.YtjdffpglgkefmaaGreat.Mx
open Go Go.RowKit Go.Sx
theorem Xtd : En Tryz.prog 42 := fun _ _ => by kernel_rfl
theorem Xq6 : En Tryz.prog 27 := fun _ _ => by kernel_rfl
theorem Qrl {p0 p1 p2 p3 p4 vp3 zp3 gp3 op3 r} (hm : Qii p0 p1 p2 p3 p4 = some r) {w : World} (ac : Rd w zp3 gp3 op3 1 vp3 (p3.map ic)) :
    Calls Tryz.prog 9 [kv p0, .agg (Qa8.cs p1).toArray, .int .i64 p2, vp3, .int .i64 p4].toArray w fun e w' => ∃ v, e = .returned v ∧ (v = .bool r ∧ Gr w w') := by
 have E := ac.lth
 unfold Qii at hm
 refine Qa5 156 Tryz.func9 rfl rfl rfl<|qs 3 rfl<|qe rfl (Qaq (cs := kb p0) rfl rfl) ?_
 rintro _ w1 ⟨b1, rfl, cQ, aO, G1⟩
 have db := aO.lt
 refine qe rfl (Qaq (cs := Qa8.cs p1) rfl rfl) ?_
 rintro _ w2 ⟨b2, rfl, cR, aP, G2⟩
 have dc := aP.lt
 refine qm rfl<|qd 2 rfl ?_
 obtain ⟨x1, bX, hm⟩ := bnd hm
 refine qe rfl (eC Xtd rfl (Qy5 bX)) ?_
 rintro _ w3 ⟨rfl, G3⟩
 have z6 := G3.size
 refine qm rfl<|Qa1<|Qa4 ?_
 have Y1 := Gr.trans (Gr.trans G1 G2) G3
 have X7 := ((Gr.refl w).trans Y1)
 refine qj (β := Bool) (rg 30 7) (fun a2 => [(36, .bool a2)]) (fun a2 wr => (Qev p0 p1 p2 p3 p4 x1 a2 = some r) ∧ Kz [] w3 wr) ?_ ?_
 · refine qg 7 rfl<|qm rfl ?_
   have aQ := (ac.gr Y1)
   refine qv rfl (Qbi (l := p3) (c := ic) Tryz.underlying44 rfl aQ)<|qv rfl (Qf2 (a := (p3.length : Int)) (b := 100) rfl rfl)<|qp rfl (Qac rfl) (fun ad => ?_) (fun ad => ?_)
   · replace hm := iT ad hm
     refine qk rfl<|qk rfl<|qm rfl<|Qaa ?_
     exact ⟨rfl, true, sbq, hm, kz0⟩
   replace hm := iF ad hm
   refine qm rfl<|qv rfl (Qcl rfl)<|qm rfl<|Qaa ?_
   exact ⟨rfl, (!x1), sbq, hm, kz0⟩
 clear hm; rintro a2 w4 ⟨hm, K4⟩
 have z8 := K4.size
 unfold Qev at hm
 refine Qam rfl (fun c1 => ?_) (fun c1 => ?_)
 · replace hm := Qc5 c1 hm
   refine qs 2 rfl<|qm rfl<|qm rfl<|Qa1<|Qag<|Qb3 ?_
   have X9 := (X7.kz K4)
   cases hm
   refine ⟨_, _, rfl, Qaw rfl (Qab rfl), ?_⟩
   exact ⟨rfl, X9⟩
 replace hm := Qc7 c1 hm
 refine qu<|qs 11 rfl ?_
 have Y2 := Gr.trans G2 G3
 have aR := ((aO.gr Y2).kz K4)
 refine qv rfl (Qa3 Qaj rfl aR rfl) ?_
 have aS := ((aP.gr G3).kz K4)
 refine qv rfl (Qa3 Qc3 rfl aS rfl)<|qm rfl<|qm rfl ?_
 have ae := ((ac.gr Y1).kz K4)
 obtain ⟨x3, bY, hm⟩ := bnd hm
 refine qe rfl (eC Xqi rfl (Quo bY ae)) ?_
 rintro _ w5 ⟨aT, aU, aV, aW, aX, aY, rfl, F, aZ, G, a0, cS, G5⟩
 have de := G5.size
 have j := F.lth
 have k := G.lth
 refine qm rfl<|qm rfl<|qm rfl<|qe rfl (Qa7 (cs := Qa9.cs (Qa9.mk [] 0#64 [] k0 k0) (.slice none 0 0) (.slice none 0 0)) Qsf rfl) ?_
 rintro _ w6 ⟨b6, rfl, cT, a1, G6⟩
 have cU := a1.lt
 have a3 := (F.gr G6)
 have a4 := (G.gr G6)
 refine qe rfl (Qai Qc8 rfl rfl (Qa9.cs_ones _ _ _ (Own.oneB a3) (Own.oneB a4)) a1 rfl rfl) ?_
 rintro _ w7 ⟨bZ, M7⟩
 have df := M7.size
 refine qm rfl<|qd 10 rfl ?_
 have Y3 := Gr.trans G5 G6
 have a6 := ((aR.gr Y3).md M7)
 refine qv rfl (Qa3 Qaj rfl a6 rfl) ?_
 have a7 := ((aS.gr Y3).md M7)
 refine qv rfl (Qa3 Qc3 rfl a7 rfl)<|qm rfl ?_
 obtain ⟨x4, b0, hm⟩ := bnd hm
 refine qe rfl (eC Xsi rfl (Qrb b0)) ?_
 rintro _ w8 ⟨a8, a9, ba, rfl, H, bb, G8⟩
 have dg := G8.size
 have u := H.lth
 refine qm rfl<|qm rfl<|qm rfl<|qe rfl (Qa7 (cs := Qaf.cs (Qaf.mk 0 [] (Qah.mk 0#64 0#64)) (.slice none 0 0)) Xbk rfl) ?_
 rintro _ w9 ⟨b9, rfl, cV, bc, G9⟩
 have cW := bc.lt
 have bd := (H.gr G9)
 refine qe rfl (Qai Qe5 rfl rfl (Qaf.cs_ones _ _ (Own.oneB bd)) bc rfl rfl) ?_
 rintro _ b3 ⟨be, x⟩
 have di := x.size
 refine qm rfl<|Qa1<|Qa4 ?_
 have Y4 := Gr.trans G8 G9
 have o := (((((X7.kz K4).trans Y3).md M7).trans Y4).md x)
 refine qj (β := Bool) (rg 53 6) (fun a5 => [(58, .bool a5)]) (fun a5 wr => (Qdp p0 p1 p2 p3 x1 x3 x4 a5 = some r) ∧ Kz [] b3 wr) ?_ ?_
 · refine qg 6 rfl<|qm rfl<|qv rfl (Qc1 (a := x3.2) (b := 0) rfl rfl)<|qp rfl (Qac rfl) (fun af => ?_) (fun af => ?_)
   · replace hm := iT af hm
     refine qk rfl<|qk rfl<|qm rfl<|Qaa ?_
     exact ⟨rfl, true, sbq, hm, kz0⟩
   replace hm := iF af hm
   refine qm rfl<|qv rfl (Qc1 (a := x4.2) (b := 0) rfl rfl)<|qm rfl<|Qaa ?_
   exact ⟨rfl, (decide (x4.2 ≠ 0)), sbq, hm, kz0⟩
 clear hm; rintro a5 dj ⟨hm, g⟩
 have dk := g.size
 unfold Qdp at hm
 refine Qam rfl (fun c2 => ?_) (fun c2 => ?_)
 · replace hm := Qc5 c2 hm
   refine qs 2 rfl<|qm rfl<|qm rfl<|Qa1<|Qag<|Qb3 ?_
   have b4 := (o.kz g)
   cases hm
   refine ⟨_, _, rfl, Qaw rfl (Qab rfl), ?_⟩
   exact ⟨rfl, b4⟩
 replace hm := Qc7 c2 hm
 refine qu<|qs 10 rfl ?_
 have bf := (((a7.gr Y4).md x).kz g)
 refine qv rfl (Qa3 Qc3 rfl bf rfl) ?_
 have ag := (be.kz g)
 refine qv rfl (Qa3 Qe5 rfl ag rfl) ?_
 have ah := (((bZ.gr Y4).md x).kz g)
 refine qv rfl (Qa3 Qc8 rfl ah rfl) ?_
 have ai := ((bd.md x (Qar u)).kz g)
 have aj := ((((a3.md M7 (Qar j)).gr Y4).md x (Qar j)).kz g)
 have ak := ((((a4.md M7 (Qar k)).gr Y4).md x (Qar k)).kz g)
 obtain ⟨x6, b5, hm⟩ := bnd hm
 refine qe rfl (eC Xmr rfl (Qqi b5 (Own.rd ai) (Own.rd aj) (Own.rd ak))) ?_
 rintro _ dl ⟨rfl, bg⟩
 have dp := bg.size
 refine qm rfl<|qm rfl<|qm rfl<|qe rfl (Qa7 (cs := kb k0) Qe8 rfl) ?_
 rintro _ dq ⟨dr, rfl, b7, Q, b8⟩
 have cX := Q.lt
 refine qe rfl (Qai Qaj rfl rfl rfl Q rfl rfl) ?_
 rintro _ ds ⟨R, f⟩
 have dt := f.size
 refine qm rfl<|qd 6 rfl ?_
 have Y5 := Gr.trans bg b8
 have al := (((((a6.gr Y4).md x).kz g).gr Y5).md f)
 refine qv rfl (Qa3 Qaj rfl al rfl)<|qm rfl<|qv rfl (Qep Qex rfl)<|qe rfl (eC Qom rfl (Qem p0 (un8 50#8) (Qip _) (Qiq _) (wd p2) _)) ?_
 rintro _ du ⟨rfl, bh⟩
 have dv := bh.size
 refine qe rfl (Qa7 (cs := kb k0) Qe8 rfl) ?_
 rintro _ dy ⟨dz, rfl, ca, S, cb⟩
 have cY := S.lt
 refine qe rfl (Qai Qaj rfl rfl rfl S rfl rfl) ?_
 rintro _ dA ⟨T, d⟩
 have dB := d.size
 refine Qa1<|Qa4<|qs 3 rfl<|qv rfl (Qa0 Qhr rfl) ?_
 have Y6 := Gr.trans bh cb
 have J := ((((bf.gr Y5).md f).gr Y6).md d)
 refine qv rfl (Qa2 (v := bv p1.Kind) Qcu rfl J rfl)<|qv rfl (Qit (p := p1.Kind) (q := 4#8) rfl rfl)<|Qa1<|Qam rfl (fun c3 => ?_) (fun c3 => ?_)
 · replace hm := iT c3 hm
   refine qs 13 rfl ?_
   have cc := ((al.gr Y6).md d)
   refine qv rfl (Qa3 Qaj rfl cc rfl)<|qv rfl (Qa3 Qc3 rfl J rfl)<|qm rfl<|qv rfl (Qa3 Qaj rfl T rfl)<|qm rfl<|qv rfl (Qep Qex rfl) ?_
   have cd := (((((((((ae.gr Y3).md M7 (Qar E)).gr Y4).md x (Qar E)).kz g).gr Y5).md f (Qar E)).gr Y6).md d (Qar E))
   obtain ⟨x7, ce, hm⟩ := bnd hm
   refine qe rfl (eC Xsm rfl (Qwb ce cd)) ?_
   rintro _ dC ⟨au, av, aw, ax, ay, az, rfl, A, aA, B, aB, cg, bi⟩
   have dD := bi.size
   have U := A.lth
   have V := B.lth
   refine qm rfl<|qm rfl<|qm rfl<|qe rfl (Qa7 (cs := Qa9.cs (Qa9.mk [] 0#64 [] k0 k0) (.slice none 0 0) (.slice none 0 0)) Qsf rfl) ?_
   rintro _ dE ⟨dF, rfl, ch, W, am⟩
   have cZ := W.lt
   have bj := (A.gr am)
   have bk := (B.gr am)
   refine qe rfl (Qai Qc8 rfl rfl (Qa9.cs_ones _ _ _ (Own.oneB bj) (Own.oneB bk)) W rfl rfl) ?_
   rintro _ dG ⟨bl, m⟩
   have dH := m.size
   refine qm rfl<|qd 10 rfl ?_
   have Y7 := Gr.trans bi am
   have ci := ((J.gr Y7).md m)
   refine qv rfl (Qa3 Qc3 rfl ci rfl) ?_
   have cj := ((((((ag.gr Y5).md f).gr Y6).md d).gr Y7).md m)
   refine qv rfl (Qa3 Qe5 rfl cj rfl) ?_
   have bm := ((((((ah.gr Y5).md f).gr Y6).md d).gr Y7).md m)
   refine qv rfl (Qa3 Qc8 rfl bm rfl) ?_
   have ck := ((((((ai.gr Y5).md f (Qar u)).gr Y6).md d (Qar u)).gr Y7).md m (Qar u))
   have bo := ((((((aj.gr Y5).md f (Qar j)).gr Y6).md d (Qar j)).gr Y7).md m (Qar j))
   have bp := ((((((ak.gr Y5).md f (Qar k)).gr Y6).md d (Qar k)).gr Y7).md m (Qar k))
   obtain ⟨x8, cl, hm⟩ := bnd hm
   refine qe rfl (eC Xre rfl (Qvm cl (Own.rd ck) (Own.rd bo) (Own.rd bp))) ?_
   rintro _ dI ⟨rfl, O⟩
   have dJ := O.size
   refine qm rfl<|qm rfl<|qm rfl<|qe rfl (Qa7 (cs := kb k0) Qe8 rfl) ?_
   rintro _ dK ⟨dL, rfl, cm, bq, an⟩
   refine qe rfl (Qai Qaj rfl rfl rfl bq rfl rfl) ?_
   rintro _ dM ⟨br, s⟩
   refine qm rfl<|qd 21 rfl<|qm rfl<|qpF rfl (Qac rfl) (fun c4 => ?_) (fun c4 => ?_)
   · replace hm := Qc7 c4 hm
     refine qk rfl<|qk rfl<|qm rfl<|qm rfl<|qk rfl<|qk rfl<|qk rfl ?_
     refine qm rfl<|qm rfl<|qk rfl<|qk rfl<|qk rfl<|qm rfl<|qm rfl ?_
     refine qk rfl<|qk rfl<|qk rfl<|qm rfl<|qm rfl<|Qa1<|Qag ?_
     refine Qb3 ?_
     have Y8 := Gr.trans O an
     have cn := (((((((((o.kz g).trans Y5).md f).trans Y6).md d).trans Y7).md m).trans Y8).md s)
     cases hm
     refine ⟨_, _, rfl, Qaw rfl (Qab rfl), ?_⟩
     exact ⟨rfl, cn⟩
   replace hm := Qc5 c4 hm
   refine qm rfl<|qv rfl (Qe4 (a := x7.2) (b := 0) rfl rfl)<|qm rfl<|qpF rfl (Qac rfl) (fun c5 => ?_) (fun c5 => ?_)
   · replace hm := iF c5 hm
     refine qk rfl<|qk rfl<|qk rfl<|qm rfl<|qm rfl<|qk rfl<|qk rfl ?_
     refine qk rfl<|qm rfl<|qm rfl<|qk rfl<|qk rfl<|qk rfl<|qm rfl ?_
     refine qm rfl<|qb ?_
     have Y9 := Gr.trans O an
     have co := (((((((((o.kz g).trans Y5).md f).trans Y6).md d).trans Y7).md m).trans Y9).md s)
     cases hm
     refine ⟨_, _, rfl, Qaw rfl (Qab rfl), ?_⟩
     exact ⟨rfl, co⟩
   replace hm := iT c5 hm
   have y := Gr.trans O an
   have cp := ((bl.gr y).md s)
   refine qv rfl (Qa3 Qc8 rfl cp rfl) ?_
   have cq := ((bm.gr y).md s)
   refine qv rfl (Qa3 Qc8 rfl cq rfl) ?_
   have cr := (((bj.md m (Qar U)).gr y).md s (Qar U))
   have ct := (((bk.md m (Qar V)).gr y).md s (Qar V))
   have cu := ((bo.gr y).md s (Qar j))
   have cv := ((bp.gr y).md s (Qar k))
   obtain ⟨x9, cw, hm⟩ := bnd hm
   refine qe rfl (eC Xq6 rfl (Qmz cw (Own.rd cr) (Own.rd ct) (Own.rd cu) (Own.rd cv))) ?_
   rintro _ dN ⟨rfl, K⟩
   refine qm rfl<|qpF rfl (Qac rfl) (fun c6 => ?_) (fun c6 => ?_)
   · replace hm := Qc7 c6 hm
     refine qk rfl<|qk rfl<|qk rfl<|qm rfl<|qm rfl<|qk rfl<|qk rfl ?_
     refine qk rfl<|qm rfl<|qm rfl<|qb ?_
     have cx := ((((((((((o.kz g).trans Y5).md f).trans Y6).md d).trans Y7).md m).trans y).md s).trans K)
     cases hm
     refine ⟨_, _, rfl, Qaw rfl (Qab rfl), ?_⟩
     exact ⟨rfl, cx⟩
   replace hm := Qc5 c6 hm
   have cy := (((((((R.gr Y6).md d).gr Y7).md m).gr y).md s).gr K)
   refine qv rfl (Qa3 Qaj rfl cy rfl) ?_
   have cz := (br.gr K)
   refine qv rfl (Qa3 Qaj rfl cz rfl)<|qv rfl (Qtn (cf := kb) (a := x6.1) (b := x8.1) Qpp rfl rfl rfl rfl (fun h => Qmf h))<|qm rfl<|qp rfl (Qac rfl) (fun c7 => ?_) (fun c7 => ?_)
   · replace hm := iT c7 hm
     refine qm rfl<|qm rfl<|qv rfl (Qe4 (a := x6.2) (b := x8.2) rfl rfl)<|qm rfl<|qm rfl<|Qa1<|Qag ?_
     refine Qb3 ?_
     have cA := ((((((((((o.kz g).trans Y5).md f).trans Y6).md d).trans Y7).md m).trans y).md s).trans K)
     cases hm
     refine ⟨_, _, rfl, Qaw rfl (Qab rfl), ?_⟩
     exact ⟨rfl, cA⟩
   replace hm := iF c7 hm
   refine qk rfl<|qk rfl<|qk rfl<|qm rfl<|qm rfl<|Qa1<|Qag ?_
   refine Qb3 ?_
   have cB := ((((((((((o.kz g).trans Y5).md f).trans Y6).md d).trans Y7).md m).trans y).md s).trans K)
   cases hm
   refine ⟨_, _, rfl, Qaw rfl (Qab rfl), ?_⟩
   exact ⟨rfl, cB⟩
 replace hm := iF c3 hm
 refine qu<|qs 8 rfl<|qv rfl (Qa3 Qc3 rfl J rfl)<|qm rfl ?_
 have cC := (((((((((ae.gr Y3).md M7 (Qar E)).gr Y4).md x (Qar E)).kz g).gr Y5).md f (Qar E)).gr Y6).md d (Qar E))
 obtain ⟨cD, bs, hm⟩ := bnd hm
 refine qe rfl (eC Xpr rfl (Qsj bs cC)) ?_
 rintro _ dO ⟨aC, aD, aE, rfl, I, aF, L⟩
 have dP := L.size
 refine qm rfl<|qm rfl<|qm rfl<|qm rfl<|qm rfl<|Qa1<|Qa4 ?_
 refine qg 11 rfl ?_
 have cE := (((al.gr Y6).md d).gr L)
 refine qv rfl (Qa3 Qaj rfl cE rfl) ?_
 have bu := (J.gr L)
 refine qv rfl (Qa3 Qc3 rfl bu rfl)<|qm rfl ?_
 have cF := (T.gr L)
 refine qv rfl (Qa3 Qaj rfl cF rfl) ?_
 obtain ⟨cG, bw, hm⟩ := bnd hm
 refine qe rfl (eC Xrs rfl (Quc bw (Own.rd I))) ?_
 rintro _ dQ ⟨aG, aH, aI, aJ, aK, aL, rfl, C, aM, D, aN, cH, bx⟩
 have dR := bx.size
 have X := C.lth
 have Y := D.lth
 refine qm rfl<|qm rfl<|qm rfl<|qe rfl (Qa7 (cs := Qa9.cs (Qa9.mk [] 0#64 [] k0 k0) (.slice none 0 0) (.slice none 0 0)) Qsf rfl) ?_
 rintro _ dS ⟨dT, rfl, cI, Z, ao⟩
 have c0 := Z.lt
 have bz := (C.gr ao)
 have bA := (D.gr ao)
 refine qe rfl (Qai Qc8 rfl rfl (Qa9.cs_ones _ _ _ (Own.oneB bz) (Own.oneB bA)) Z rfl rfl) ?_
 rintro _ dU ⟨bB, i⟩
 have dV := i.size
 refine qm rfl<|qd 10 rfl ?_
 have bC := Gr.trans bx ao
 have cJ := ((bu.gr bC).md i)
 refine qv rfl (Qa3 Qc3 rfl cJ rfl) ?_
 have t := Gr.trans L bC
 have cK := ((((((ag.gr Y5).md f).gr Y6).md d).gr t).md i)
 refine qv rfl (Qa3 Qe5 rfl cK rfl) ?_
 have bD := ((((((ah.gr Y5).md f).gr Y6).md d).gr t).md i)
 refine qv rfl (Qa3 Qc8 rfl bD rfl) ?_
 have cL := ((((((ai.gr Y5).md f (Qar u)).gr Y6).md d (Qar u)).gr t).md i (Qar u))
 have aa := ((((((aj.gr Y5).md f (Qar j)).gr Y6).md d (Qar j)).gr t).md i (Qar j))
 have ab := ((((((ak.gr Y5).md f (Qar k)).gr Y6).md d (Qar k)).gr t).md i (Qar k))
 obtain ⟨bE, bF, hm⟩ := bnd hm
 refine qe rfl (eC Xrl rfl (Quk bF (Own.rd cL) (Own.rd aa) (Own.rd ab))) ?_
 rintro _ dW ⟨rfl, M⟩
 have da := M.size
 refine qm rfl<|qm rfl<|qm rfl<|qe rfl (Qa7 (cs := kb k0) Qe8 rfl) ?_
 rintro _ dX ⟨dY, rfl, cM, bG, P⟩
 refine qe rfl (Qai Qaj rfl rfl rfl bG rfl rfl) ?_
 rintro _ dZ ⟨bH, n⟩
 refine qm rfl<|qd 25 rfl<|qm rfl<|qpF rfl (Qac rfl) (fun c8 => ?_) (fun c8 => ?_)
 · replace hm := Qc7 c8 hm
   refine qk rfl<|qk rfl<|qm rfl<|qm rfl<|qk rfl<|qk rfl<|qm rfl ?_
   refine qm rfl<|qk rfl<|qk rfl<|qk rfl<|qm rfl<|qm rfl<|qk rfl ?_
   refine qk rfl<|qk rfl<|qm rfl<|qm rfl<|qk rfl<|qk rfl<|qk rfl ?_
   refine qm rfl<|qm rfl<|Qa1<|Qag ?_
   have cN := Gr.trans M P
   have bI := (((((((((o.kz g).trans Y5).md f).trans Y6).md d).trans t).md i).trans cN).md n)
   cases hm
   refine ⟨_, _, rfl, Qaw rfl (Qab rfl), ?_⟩
   exact ⟨rfl, bI⟩
 replace hm := Qc5 c8 hm
 refine qm rfl<|qv rfl (Qe4 (a := cD.2) (b := 0) rfl rfl)<|qm rfl<|qpF rfl (Qac rfl) (fun c9 => ?_) (fun c9 => ?_)
 · replace hm := iF c9 hm
   refine qk rfl<|qk rfl<|qm rfl<|qm rfl<|qk rfl<|qk rfl<|qk rfl ?_
   refine qm rfl<|qm rfl<|qk rfl<|qk rfl<|qk rfl<|qm rfl<|qm rfl ?_
   refine qk rfl<|qk rfl<|qk rfl<|qm rfl<|qm rfl<|Qa1<|Qag ?_
   have cO := Gr.trans M P
   have bJ := (((((((((o.kz g).trans Y5).md f).trans Y6).md d).trans t).md i).trans cO).md n)
   cases hm
   refine ⟨_, _, rfl, Qaw rfl (Qab rfl), ?_⟩
   exact ⟨rfl, bJ⟩
 replace hm := iT c9 hm
 refine qm rfl<|qv rfl (Qe4 (a := cG.2) (b := 0) rfl rfl)<|qm rfl<|qpF rfl (Qac rfl) (fun ap => ?_) (fun ap => ?_)
 · replace hm := iF ap hm
   refine qk rfl<|qk rfl<|qk rfl<|qm rfl<|qm rfl<|qk rfl<|qk rfl ?_
   refine qk rfl<|qm rfl<|qm rfl<|qk rfl<|qk rfl<|qk rfl<|qm rfl ?_
   refine qm rfl<|Qa1<|Qag ?_
   have cP := Gr.trans M P
   have bK := (((((((((o.kz g).trans Y5).md f).trans Y6).md d).trans t).md i).trans cP).md n)
   cases hm
   refine ⟨_, _, rfl, Qaw rfl (Qab rfl), ?_⟩
   exact ⟨rfl, bK⟩
 replace hm := iT ap hm
 have z := Gr.trans M P
 have bL := ((bB.gr z).md n)
 refine qv rfl (Qa3 Qc8 rfl bL rfl) ?_
 have bM := ((bD.gr z).md n)
 refine qv rfl (Qa3 Qc8 rfl bM rfl) ?_
 have bN := (((bz.md i (Qar X)).gr z).md n (Qar X))
 have bO := (((bA.md i (Qar Y)).gr z).md n (Qar Y))
 have bP := ((aa.gr z).md n (Qar j))
 have bQ := ((ab.gr z).md n (Qar k))
 obtain ⟨d0, bR, hm⟩ := bnd hm
 refine qe rfl (eC Xq6 rfl (Qmz bR (Own.rd bN) (Own.rd bO) (Own.rd bP) (Own.rd bQ))) ?_
 rintro _ d1 ⟨rfl, N⟩
 refine qm rfl<|qpF rfl (Qac rfl) (fun aq => ?_) (fun aq => ?_)
 · replace hm := Qc7 aq hm
   refine qk rfl<|qk rfl<|qk rfl<|qm rfl<|qm rfl<|qk rfl<|qk rfl ?_
   refine qk rfl<|qm rfl<|qm rfl<|Qa1<|Qag ?_
   have bS := ((((((((((o.kz g).trans Y5).md f).trans Y6).md d).trans t).md i).trans z).md n).trans N)
   cases hm
   refine ⟨_, _, rfl, Qaw rfl (Qab rfl), ?_⟩
   exact ⟨rfl, bS⟩
 replace hm := Qc5 aq hm
 have bT := (((((((R.gr Y6).md d).gr t).md i).gr z).md n).gr N)
 refine qv rfl (Qa3 Qaj rfl bT rfl) ?_
 have bU := (bH.gr N)
 refine qv rfl (Qa3 Qaj rfl bU rfl)<|qv rfl (Qtn (cf := kb) (a := x6.1) (b := bE.1) Qpp rfl rfl rfl rfl (fun h => Qmf h))<|qm rfl<|qp rfl (Qac rfl) (fun ar => ?_) (fun ar => ?_)
 · replace hm := iT ar hm
   refine qm rfl<|qm rfl<|qv rfl (Qe4 (a := x6.2) (b := bE.2) rfl rfl)<|qm rfl<|qm rfl<|Qa1<|Qag ?_
   have bV := ((((((((((o.kz g).trans Y5).md f).trans Y6).md d).trans t).md i).trans z).md n).trans N)
   cases hm
   refine ⟨_, _, rfl, Qaw rfl (Qab rfl), ?_⟩
   exact ⟨rfl, bV⟩
 replace hm := iF ar hm
 refine qk rfl<|qk rfl<|qk rfl<|qm rfl<|qm rfl<|Qa1<|Qag ?_
 have bW := ((((((((((o.kz g).trans Y5).md f).trans Y6).md d).trans t).md i).trans z).md n).trans N)
 cases hm
 refine ⟨_, _, rfl, Qaw rfl (Qab rfl), ?_⟩
 exact ⟨rfl, bW⟩
end Go.Proofs.YtjdffpglgkefmaaGreat.Mx
