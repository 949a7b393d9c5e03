/- Walks that follow mirrors: Bk5. Printed by mx.py. -/
import Derived.Test.YtjdffpglgkefmaaGreatXh
import Derived.Test.YtjdffpglgkefmaaGreatZd
set_option linter.unusedVariables false
set_option linter.unusedSimpArgs false
set_option maxRecDepth 100000
set_option maxHeartbeats 2000000
namespace Go.Proofs.YtjdffpglgkefmaaGreat.Mx
open Go Go.RowKit Go.Sx
theorem Xms : En Tryz.prog 42 := fun _ _ => by kernel_rfl
theorem Xo1 : En Tryz.prog 22 := fun _ _ => by kernel_rfl
theorem Xe0 : En Tryz.prog 58 := fun _ _ => by kernel_rfl
theorem Xky : En Tryz.prog 57 := fun _ _ => by kernel_rfl
theorem Xnk : En Tryz.prog 27 := fun _ _ => by kernel_rfl
theorem Xo2 : En Tryz.prog 33 := fun _ _ => by kernel_rfl
theorem Qrd {p0 p1 vp0_2 zp0_2 gp0_2 op0_2 vp0_4 zp0_4 gp0_4 op0_4 vp0_39 zp0_39 gp0_39 op0_39 vp1_2 zp1_2 gp1_2 op1_2 vp1_4 zp1_4 gp1_4 op1_4 vp1_39 zp1_39 gp1_39 op1_39 r} (hm : Qgr p0 p1 = some r) {w : World} (i : Rd w zp0_2 gp0_2 op0_2 18 vp0_2 (p0.Head.Items.map Qbd.cs)) (j : Rd w zp0_4 gp0_4 op0_4 2 vp0_4 (p0.Head.Points.map Qag.cs)) (f : Rd w zp0_39 gp0_39 op0_39 1 vp0_39 (p0.Data.map bvc)) (k : Rd w zp1_2 gp1_2 op1_2 18 vp1_2 (p1.Head.Items.map Qbd.cs)) (n : Rd w zp1_4 gp1_4 op1_4 2 vp1_4 (p1.Head.Points.map Qag.cs)) (g : Rd w zp1_39 gp1_39 op1_39 1 vp1_39 (p1.Data.map bvc)) :
    Calls Tryz.prog 33 [.agg (Qa4.cs p0 vp0_2 vp0_4 vp0_39).toArray, .agg (Qa4.cs p1 vp1_2 vp1_4 vp1_39).toArray].toArray w fun e w' => ∃ v, e = .returned v ∧ (v = .bool r ∧ Gr w w') := by
 have P := i.lth
 have Q := j.lth
 have R := f.lth
 have S := k.lth
 have T := n.lth
 have U := g.lth
 unfold Qgr at hm
 refine Qa5 54 Tryz.func33 rfl rfl rfl<|qs 3 rfl<|qe rfl (Qat (cs := Qa4.cs p0 vp0_2 vp0_4 vp0_39) rfl rfl) ?_
 rintro _ w1 ⟨b1, rfl, M, x, G1⟩
 have z7 := G1.size
 have V := x.lt
 refine qe rfl (Qat (cs := Qa4.cs p1 vp1_2 vp1_4 vp1_39) rfl rfl) ?_
 rintro _ w2 ⟨b2, rfl, N, o, G2⟩
 have z9 := G2.size
 have O := o.lt
 refine qm rfl<|qd 50 rfl<|qv rfl (Qa0 Qom rfl) ?_
 have s := (x.gr G2)
 refine qv rfl (Qa2 (v := bv p0.Kind) Qcd rfl s rfl)<|qv rfl (Qa0 Qom rfl)<|qv rfl (Qa2 (v := bv p1.Kind) Qcd rfl o rfl)<|qv rfl (Qga (p := p0.Kind) (q := p1.Kind) rfl rfl)<|qpF rfl (Qad rfl) (fun c1 => ?_) (fun c1 => ?_)
 · replace hm := iF c1 hm
   refine qk rfl<|qk rfl<|qk rfl<|qk rfl<|qk rfl<|qm rfl<|qm rfl ?_
   refine qk rfl<|qk rfl<|qk rfl<|qk rfl<|qk rfl<|qm rfl<|qm rfl ?_
   refine qk rfl<|qk rfl<|qk rfl<|qk rfl<|qk rfl<|qm rfl<|qm rfl ?_
   refine qk rfl<|qk rfl<|qk rfl<|qk rfl<|qk rfl<|qm rfl<|qm rfl ?_
   refine qk rfl<|qk rfl<|qk rfl<|qk rfl<|qk rfl<|qk rfl<|qk rfl ?_
   refine qm rfl<|qm rfl<|qk rfl<|qk rfl<|qk rfl<|qk rfl<|qk rfl ?_
   refine qm rfl<|qm rfl<|Qa1<|Qaf ?_
   have Y1 := Gr.trans G1 G2
   have y := ((Gr.refl w).trans Y1)
   cases hm
   refine ⟨_, _, rfl, Qay rfl (Qac rfl), ?_⟩
   exact ⟨rfl, y⟩
 replace hm := iT c1 hm
 refine qv rfl (Qa0 Qlh rfl)<|qv rfl (Qa2 (v := .int .i64 p0.Epoch) Qb3 rfl s rfl)<|qv rfl (Qa0 Qlh rfl)<|qv rfl (Qa2 (v := .int .i64 p1.Epoch) Qb3 rfl o rfl)<|qv rfl (Qdj (a := p0.Epoch) (b := p1.Epoch) rfl rfl)<|qm rfl<|qpF rfl (Qad rfl) (fun c2 => ?_) (fun c2 => ?_)
 · replace hm := iF c2 hm
   refine qk rfl<|qk rfl<|qk rfl<|qk rfl<|qk rfl<|qm rfl<|qm rfl ?_
   refine qk rfl<|qk rfl<|qk rfl<|qk rfl<|qk rfl<|qm rfl<|qm rfl ?_
   refine qk rfl<|qk rfl<|qk rfl<|qk rfl<|qk rfl<|qm rfl<|qm rfl ?_
   refine qk rfl<|qk rfl<|qk rfl<|qk rfl<|qk rfl<|qk rfl<|qk rfl ?_
   refine qm rfl<|qm rfl<|qk rfl<|qk rfl<|qk rfl<|qk rfl<|qk rfl ?_
   refine qm rfl<|qm rfl<|Qa1<|Qaf ?_
   have Y2 := Gr.trans G1 G2
   have z := ((Gr.refl w).trans Y2)
   cases hm
   refine ⟨_, _, rfl, Qay rfl (Qac rfl), ?_⟩
   exact ⟨rfl, z⟩
 replace hm := iT c2 hm
 refine qv rfl (Qa0 Qd9 rfl)<|qv rfl (Qb9 (vs := Qa8.cs p0.Head vp0_2 vp0_4) Qcp rfl s rfl rfl)<|qv rfl (Qa0 Qd9 rfl)<|qv rfl (Qb9 (vs := Qa8.cs p1.Head vp1_2 vp1_4) Qcp rfl o rfl rfl) ?_
 have Y3 := Gr.trans G1 G2
 have A := (i.gr Y3)
 have B := (j.gr Y3)
 have C := (k.gr Y3)
 have D := (n.gr Y3)
 obtain ⟨x1, E, hm⟩ := bnd hm
 refine qe rfl (eC Xnk rfl (Qre E A B C D)) ?_
 rintro _ w3 ⟨rfl, G3⟩
 have W := G3.size
 refine qm rfl<|qpF rfl (Qad rfl) (fun c3 => ?_) (fun c3 => ?_)
 · replace hm := Qc1 c3 hm
   refine qk rfl<|qk rfl<|qk rfl<|qk rfl<|qk rfl<|qm rfl<|qm rfl ?_
   refine qk rfl<|qk rfl<|qk rfl<|qk rfl<|qk rfl<|qm rfl<|qm rfl ?_
   refine qk rfl<|qk rfl<|qk rfl<|qk rfl<|qk rfl<|qk rfl<|qk rfl ?_
   refine qm rfl<|qm rfl<|qk rfl<|qk rfl<|qk rfl<|qk rfl<|qk rfl ?_
   refine qm rfl<|qm rfl<|Qa1<|Qaf ?_
   have Y4 := Gr.trans Y3 G3
   have F := ((Gr.refl w).trans Y4)
   cases hm
   refine ⟨_, _, rfl, Qay rfl (Qac rfl), ?_⟩
   exact ⟨rfl, F⟩
 replace hm := Qc0 c3 hm
 refine qv rfl (Qa0 Qqq rfl) ?_
 have t := (s.gr G3)
 refine qv rfl (Qa2 (v := bv p0.Low) Qcd rfl t rfl)<|qv rfl (Qa0 Qqq rfl) ?_
 have u := (o.gr G3)
 refine qv rfl (Qa2 (v := bv p1.Low) Qcd rfl u rfl)<|qv rfl (Qga (p := p0.Low) (q := p1.Low) rfl rfl)<|qm rfl<|qpF rfl (Qad rfl) (fun c4 => ?_) (fun c4 => ?_)
 · replace hm := iF c4 hm
   refine qk rfl<|qk rfl<|qk rfl<|qk rfl<|qk rfl<|qm rfl<|qm rfl ?_
   refine qk rfl<|qk rfl<|qk rfl<|qk rfl<|qk rfl<|qk rfl<|qk rfl ?_
   refine qm rfl<|qm rfl<|qk rfl<|qk rfl<|qk rfl<|qk rfl<|qk rfl ?_
   refine qm rfl<|qm rfl<|Qa1<|Qaf ?_
   have Y5 := Gr.trans Y3 G3
   have G := ((Gr.refl w).trans Y5)
   cases hm
   refine ⟨_, _, rfl, Qay rfl (Qac rfl), ?_⟩
   exact ⟨rfl, G⟩
 replace hm := iT c4 hm
 refine qv rfl (Qa0 Qrm rfl)<|qv rfl (Qa2 (v := wv p0.Number) Qb7 rfl t rfl)<|qv rfl (Qa0 Qrm rfl)<|qv rfl (Qa2 (v := wv p1.Number) Qb7 rfl u rfl)<|qv rfl (Qqt (c := p0.Number) (d := p1.Number) rfl rfl)<|qm rfl<|qpF rfl (Qad rfl) (fun c5 => ?_) (fun c5 => ?_)
 · replace hm := iF c5 hm
   refine qk rfl<|qk rfl<|qk rfl<|qk rfl<|qk rfl<|qk rfl<|qk rfl ?_
   refine qm rfl<|qm rfl<|qk rfl<|qk rfl<|qk rfl<|qk rfl<|qk rfl ?_
   refine qm rfl<|qm rfl<|Qa1<|Qaf ?_
   have Y6 := Gr.trans Y3 G3
   have H := ((Gr.refl w).trans Y6)
   cases hm
   refine ⟨_, _, rfl, Qay rfl (Qac rfl), ?_⟩
   exact ⟨rfl, H⟩
 replace hm := iT c5 hm
 refine qv rfl (Qa0 Qlv rfl)<|qv rfl (Qa2 (v := vp0_39) Qg2 rfl t rfl) ?_
 have Y7 := Gr.trans Y3 G3
 have I := (f.gr Y7)
 refine qv rfl (Qwk (l := p0.Data) Tryz.underlying50 Tryz.underlying5 Tryz.underlying9 rfl I)<|qv rfl (Qa0 Qlv rfl)<|qv rfl (Qa2 (v := vp1_39) Qg2 rfl u rfl) ?_
 have J := (g.gr Y7)
 refine qv rfl (Qwk (l := p1.Data) Tryz.underlying50 Tryz.underlying5 Tryz.underlying9 rfl J)<|qv rfl (Xcg (l := p0.Data) (m := p1.Data) rfl rfl)<|qm rfl<|qpF rfl (Qad rfl) (fun c6 => ?_) (fun c6 => ?_)
 · replace hm := iF c6 hm
   refine qk rfl<|qk rfl<|qk rfl<|qk rfl<|qk rfl<|qm rfl<|qm rfl ?_
   refine Qa1<|Qaf ?_
   have K := ((Gr.refl w).trans Y7)
   cases hm
   refine ⟨_, _, rfl, Qay rfl (Qac rfl), ?_⟩
   exact ⟨rfl, K⟩
 replace hm := iT c6 hm
 refine qv rfl (Qa0 Qos rfl)<|qv rfl (Qb9 (vs := kb p0.Mac) Qai rfl t rfl rfl)<|qv rfl (Qa0 Qos rfl)<|qv rfl (Qb9 (vs := kb p1.Mac) Qai rfl u rfl rfl)<|qv rfl (Qtf (cf := kb) (a := p0.Mac) (b := p1.Mac) Qpd rfl rfl rfl rfl (fun h => Qlj h))<|qm rfl<|qm rfl ?_
 refine Qa1<|Qaf ?_
 have L := ((Gr.refl w).trans Y7)
 cases hm
 refine ⟨_, _, rfl, Qay rfl (Qac rfl), ?_⟩
 exact ⟨rfl, L⟩
theorem Qs4 {p0 p1 p2 vp0_2 zp0_2 gp0_2 op0_2 vp0_4 zp0_4 gp0_4 op0_4 vp0_39 zp0_39 gp0_39 op0_39 vp1 zp1 gp1 op1 r} (hm : Qiw p0 p1 p2 = some r) {w : World} (J : Rd w zp0_2 gp0_2 op0_2 18 vp0_2 (p0.Head.Items.map Qbd.cs)) (K : Rd w zp0_4 gp0_4 op0_4 2 vp0_4 (p0.Head.Points.map Qag.cs)) (E : Rd w zp0_39 gp0_39 op0_39 1 vp0_39 (p0.Data.map bvc)) (ax : Rd w zp1 gp1 op1 1 vp1 (p1.map bvc)) :
    Calls Tryz.prog 12 [.agg (Qa4.cs p0 vp0_2 vp0_4 vp0_39).toArray, vp1, .int .i64 p2].toArray w fun e w' => ∃ v, e = .returned v ∧ (v = .bool r ∧ Gr w w') := by
 have cw := J.lth
 have cx := K.lth
 have cy := E.lth
 have cz := ax.lth
 unfold Qiw at hm
 refine Qa5 154 Tryz.func12 rfl rfl rfl<|qs 2 rfl<|qe rfl (Qat (cs := Qa4.cs p0 vp0_2 vp0_4 vp0_39) rfl rfl) ?_
 rintro _ w1 ⟨b1, rfl, dK, ay, G1⟩
 have z5 := G1.size
 have ej := ay.lt
 refine qm rfl<|qd 2 rfl ?_
 obtain ⟨x1, cA, hm⟩ := bnd hm
 refine qe rfl (eC Xms rfl (Qvp cA)) ?_
 rintro _ w2 ⟨rfl, G2⟩
 have z7 := G2.size
 refine qm rfl<|Qa1<|Qa3 ?_
 have Y1 := Gr.trans G1 G2
 have X8 := ((Gr.refl w).trans Y1)
 refine qj (β := Bool) (rg 22 12) (fun a2 => [(33, .bool a2)]) (fun a2 wr => (Qeb p0 p1 p2 x1 a2 = some r) ∧ Kz [] w2 wr) ?_ ?_
 · refine qg 12 rfl<|qv rfl (Qau (cs := Qap.cs (Qap.mk 0 [] (Qag.mk 0#64 0#64)) (.slice none 0 0)) Qu7 rfl rfl) ?_
   have bI := (ay.gr G2)
   refine qv rfl (Qa6 Qbu rfl bI rfl) ?_
   have bJ := (J.gr Y1)
   have bK := (K.gr Y1)
   have bL := (E.gr Y1)
   obtain ⟨ek, bM, hm⟩ := bnd hm
   refine qe rfl (eC Xo1 rfl (Quu bM (Own.rd (Qaw _ 0 92 18)) bJ bK bL)) ?_
   rintro _ el ⟨rfl, S⟩
   have dL := S.size
   refine qp rfl (Qad rfl) (fun az => ?_) (fun az => ?_)
   · replace hm := Qc0 az hm
     refine qk rfl<|qk rfl<|qk rfl<|qm rfl<|qm rfl<|qk rfl<|qk rfl ?_
     refine qm rfl<|Qa9 ?_
     exact ⟨rfl, true, sbq, hm, (kz0.gr S)⟩
   replace hm := Qc1 az hm
   refine qm rfl ?_
   have bN := ((ax.gr Y1).gr S)
   refine qv rfl (Qba (l := p1) (c := bvc) Tryz.underlying50 rfl bN)<|qv rfl (Qe8 (a := (p1.length : Int)) (b := 3000) rfl rfl)<|qm rfl<|qp rfl (Qad rfl) (fun aA => ?_) (fun aA => ?_)
   · replace hm := iT aA hm
     refine qk rfl<|qk rfl<|qm rfl<|Qa9 ?_
     exact ⟨rfl, true, sbq, hm, (kz0.gr S)⟩
   replace hm := iF aA hm
   refine qm rfl<|qv rfl (Qci rfl)<|qm rfl<|Qa9 ?_
   exact ⟨rfl, (!x1), sbq, hm, (kz0.gr S)⟩
 clear hm; rintro a2 w3 ⟨hm, K3⟩
 have z9 := K3.size
 unfold Qeb at hm
 refine Qal rfl (fun c1 => ?_) (fun c1 => ?_)
 · replace hm := Qc0 c1 hm
   refine qs 2 rfl<|qm rfl<|qm rfl<|Qa1<|Qaf<|Qb2 ?_
   have cB := (X8.kz K3)
   cases hm
   refine ⟨_, _, rfl, Qay rfl (Qac rfl), ?_⟩
   exact ⟨rfl, cB⟩
 replace hm := Qc1 c1 hm
 refine qu ?_
 have T := (X8.kz K3)
 refine qj (β := Unit) ([6, 8, 9, 10, 11] ++ rg 35 26) (fun _ => [(6, .bool false)]) (fun _ wr => (Qe6 p0 p2 x1 = some r) ∧ Kz [] w3 wr) ?_ ?_
 · refine qs 8 rfl<|qm rfl ?_
   have bO := ((ax.gr Y1).kz K3)
   obtain ⟨cC, bP, hm⟩ := bnd hm
   refine qe rfl (eC Xe0 rfl (Qk0 bP bO)) ?_
   rintro _ em ⟨a8, a9, ba, bb, bc, bd, aB, aC, aD, rfl, s, bf, t, bg, h, aE, cD, cE, cF, aF⟩
   have en := aF.size
   have bQ := s.lth
   have aG := t.lth
   have aH := h.lth
   refine qm rfl<|qm rfl<|qm rfl<|qe rfl (Qaa (cs := Qa4.cs (Qa4.mk 0#8 0 (Qa8.mk [] 0#64 [] k0 k0) 0#8 0#64 [] k0) (.slice none 0 0) (.slice none 0 0) (.slice none 0 0)) Qis rfl) ?_
   rintro _ eo ⟨ep, rfl, cG, ah, R⟩
   have dM := R.size
   have cH := ah.lt
   have ai := (s.gr R)
   have aj := (t.gr R)
   have ak := (h.gr R)
   refine qe rfl (Qah Qbu rfl rfl (Qa4.cs_ones _ _ _ _ (Own.oneB ai) (Own.oneB aj) (Own.oneB ak)) ah rfl rfl) ?_
   rintro _ er ⟨al, F⟩
   have dN := F.size
   refine qm rfl<|qd 2 rfl<|qm rfl<|qv rfl (Qdj (a := cC.2) (b := 0) rfl rfl)<|Qa1 ?_
   refine cnF rfl (fun aI => ?_) (fun aI => ?_)
   · replace hm := iF aI hm
     refine Qc5 ?_
     have Y2 := Gr.trans aF R
     exact ⟨rfl, (), sbq, hm, ((kz0.gr Y2).md F)⟩
   replace hm := iT aI hm
   refine qs 7 rfl<|qv rfl (Qa6 Qbu rfl al rfl) ?_
   have am := (ai.md F (Qan bQ))
   have an := (aj.md F (Qan aG))
   have ao := (ak.md F (Qan aH))
   obtain ⟨aJ, bR, hm⟩ := bnd hm
   refine qe rfl (eC Xky rfl (Qpt bR (Own.rd am) (Own.rd an) (Own.rd ao))) ?_
   rintro _ cI ⟨bh, bi, bj, rfl, u, bk, G⟩
   have dO := G.size
   have cJ := u.lth
   refine qm rfl<|qm rfl<|qm rfl<|qm rfl<|qm rfl<|Qa1 ?_
   have Y3 := Gr.trans aF R
   have bS := (((T.trans Y3).md F).trans G)
   refine qj (β := Bool) (rg 47 14) (fun Z => [(60, .bool Z)]) (fun Z wr => (Qe7 p0 p2 x1 Z = some r) ∧ Kz [] cI wr) ?_ ?_
   · refine qg 14 rfl<|qm rfl<|qv rfl (Qby (a := aJ.2) (b := 0) rfl rfl)<|qp rfl (Qad rfl) (fun aK => ?_) (fun aK => ?_)
     · replace hm := iT aK hm
       refine qk rfl<|qk rfl<|qk rfl<|qk rfl<|qk rfl<|qm rfl<|qm rfl ?_
       refine qk rfl<|qk rfl<|qk rfl<|qm rfl<|Qa9 ?_
       exact ⟨rfl, true, sbq, hm, kz0⟩
     replace hm := iF aK hm
     refine qm rfl<|qv rfl (Qwk (l := aJ.1) Tryz.underlying50 Tryz.underlying5 Tryz.underlying9 rfl (Own.rd u))<|qm rfl ?_
     have bT := (((bO.gr Y3).md F (Qan cz)).gr G)
     refine qv rfl (Qwk (l := p1) Tryz.underlying50 Tryz.underlying5 Tryz.underlying9 rfl bT)<|qv rfl (Xhf (l := aJ.1) (m := p1) rfl rfl)<|qm rfl<|qp rfl (Qad rfl) (fun aL => ?_) (fun aL => ?_)
     · replace hm := iT aL hm
       refine qk rfl<|qk rfl<|qk rfl<|qm rfl<|Qa9 ?_
       exact ⟨rfl, true, sbq, hm, kz0⟩
     replace hm := iF aL hm
     have bU := (al.gr G)
     refine qv rfl (Qa6 Qbu rfl bU rfl) ?_
     have bV := (am.gr G)
     have bW := (an.gr G)
     have bX := (ao.gr G)
     obtain ⟨bY, bZ, hm⟩ := bnd hm
     refine qe rfl (eC Xf8 rfl (Qgg bZ (Own.rd bV) (Own.rd bW) (Own.rd bX))) ?_
     rintro _ es ⟨rfl, b0⟩
     have dP := b0.size
     refine qv rfl (Qby (a := bY) (b := 0) rfl rfl)<|qm rfl<|Qa9 ?_
     exact ⟨rfl, (decide (bY ≠ 0)), sbq, hm, (kz0.gr b0)⟩
   clear hm; rintro Z et ⟨hm, aM⟩
   have dQ := aM.size
   unfold Qe7 at hm
   refine cnF rfl (fun aN => ?_) (fun aN => ?_)
   · replace hm := Qc1 aN hm
     refine Qc5 ?_
     exact ⟨rfl, (), sbq, hm, ((((kz0.gr Y3).md F).gr G).kz aM)⟩
   replace hm := Qc0 aN hm
   refine qs 1 rfl<|qm rfl<|qb ?_
   have b2 := (bS.kz aM)
   cases hm
   refine ⟨_, _, rfl, Qay rfl (Qac rfl), ?_⟩
   exact ⟨rfl, b2⟩
 clear hm; rintro _ w4 ⟨hm, K4⟩
 have eu := K4.size
 unfold Qe6 at hm
 refine qs 7 rfl ?_
 have b3 := (((ay.gr G2).kz K3).kz K4)
 refine qv rfl (Qa6 Qbu rfl b3 rfl) ?_
 have aO := (((J.gr Y1).kz K3).kz K4)
 have aP := (((K.gr Y1).kz K3).kz K4)
 have b4 := (((E.gr Y1).kz K3).kz K4)
 obtain ⟨x3, cK, hm⟩ := bnd hm
 refine qe rfl (eC Xky rfl (Qpt cK aO aP b4)) ?_
 rintro _ w5 ⟨b5, d, f, rfl, i, b6, G5⟩
 have ew := G5.size
 have g := i.lth
 refine qm rfl<|qm rfl<|qm rfl<|qm rfl<|qm rfl<|Qa1<|Qa3 ?_
 refine qs 2 rfl<|qm rfl<|qv rfl (Qby (a := x3.2) (b := 0) rfl rfl)<|Qa1<|Qal rfl (fun c2 => ?_) (fun c2 => ?_)
 · replace hm := iT c2 hm
   refine qs 11 rfl<|qm rfl<|qpF rfl (Qad rfl) (fun c3 => ?_) (fun c3 => ?_)
   · replace hm := Qc1 c3 hm
     refine qk rfl<|qk rfl<|qm rfl<|qm rfl<|qk rfl<|qk rfl<|qk rfl ?_
     refine qm rfl<|qm rfl<|qb ?_
     have cL := ((T.kz K4).trans G5)
     cases hm
     refine ⟨_, _, rfl, Qay rfl (Qac rfl), ?_⟩
     exact ⟨rfl, cL⟩
   replace hm := Qc0 c3 hm
   refine qm rfl<|qv rfl (Qdj (a := x3.2) (b := 8) rfl rfl)<|qm rfl<|qpF rfl (Qad rfl) (fun c4 => ?_) (fun c4 => ?_)
   · replace hm := iF c4 hm
     refine qk rfl<|qk rfl<|qk rfl<|qm rfl<|qm rfl<|Qa1<|Qaf ?_
     refine Qb2 ?_
     have cM := ((T.kz K4).trans G5)
     cases hm
     refine ⟨_, _, rfl, Qay rfl (Qac rfl), ?_⟩
     exact ⟨rfl, cM⟩
   replace hm := iT c4 hm
   refine qm rfl<|qv rfl (Qba (l := x3.1) (c := bvc) Tryz.underlying50 rfl (Own.rd i))<|qv rfl (Qdj (a := (x3.1.length : Int)) (b := 0) rfl rfl)<|qm rfl<|qm rfl<|Qa1<|Qaf ?_
   refine Qb2 ?_
   have cN := ((T.kz K4).trans G5)
   cases hm
   refine ⟨_, _, rfl, Qay rfl (Qac rfl), ?_⟩
   exact ⟨rfl, cN⟩
 replace hm := iF c2 hm
 refine qu<|qs 5 rfl<|qv rfl (Qa0 Qlv rfl) ?_
 have U := (b3.gr G5)
 refine qv rfl (Qa2 (v := vp0_39) Qg2 rfl U rfl) ?_
 have b7 := (b4.gr G5)
 refine qv rfl (Qba (l := p0.Data) (c := bvc) Tryz.underlying50 rfl b7)<|qv rfl (Qc6 (k := .i64) (a := 28) (b := (p0.Data.length : Int)) rfl rfl)<|qm rfl<|Qa1 ?_
 have cO := ((T.kz K4).trans G5)
 refine qj (β := Int) ([14] ++ rg 82 15) (fun a4 => [(14, .int .i64 a4)]) (fun a4 wr => (Qea p0 p2 x1 x3 a4 = some r) ∧ Kz [] w5 wr) ?_ ?_
 · refine qs 3 rfl<|qv rfl (Qa0 Qom rfl)<|qv rfl (Qa2 (v := bv p0.Kind) Qcd rfl U rfl)<|qv rfl (Qga (p := p0.Kind) (q := 1#8) rfl rfl)<|Qa1<|cnF rfl (fun aQ => ?_) (fun aQ => ?_)
   · replace hm := iF aQ hm
     refine Qc5 ?_
     exact ⟨rfl, (w64 (28 + (p0.Data.length : Int))), sbq, hm, kz0⟩
   replace hm := iT aQ hm
   refine qg 13 rfl<|qv rfl (Qa0 Qd9 rfl)<|qv rfl (Qa0 Qfw rfl)<|qv rfl (Qa2 (v := vp0_2) Qi5 rfl U rfl) ?_
   have cP := (aO.gr G5)
   refine qv rfl (Qba (l := p0.Head.Items) (c := Qbd.cs) Tryz.underlying45 rfl cP)<|qv rfl (Qhy (k := .i64) (a := 18) (b := (p0.Head.Items.length : Int)) rfl rfl)<|qv rfl (Qc6 (k := .i64) (a := 67) (b := w64 (18 * (p0.Head.Items.length : Int))) rfl rfl)<|qv rfl (Qa0 Qd9 rfl)<|qv rfl (Qa0 Qee rfl)<|qv rfl (Qa2 (v := vp0_4) Qg3 rfl U rfl) ?_
   have cQ := (aP.gr G5)
   refine qv rfl (Qba (l := p0.Head.Points) (c := Qag.cs) Tryz.underlying46 rfl cQ)<|qv rfl (Qhy (k := .i64) (a := 16) (b := (p0.Head.Points.length : Int)) rfl rfl)<|qv rfl (Qc6 (k := .i64) (a := w64 (67 + (w64 (18 * (p0.Head.Items.length : Int))))) (b := w64 (16 * (p0.Head.Points.length : Int))) rfl rfl)<|qm rfl<|Qa9 ?_
   exact ⟨rfl, (w64 ((w64 (67 + (w64 (18 * (p0.Head.Items.length : Int))))) + (w64 (16 * (p0.Head.Points.length : Int))))), sbq, hm, kz0⟩
 clear hm; rintro a4 w6 ⟨hm, K6⟩
 have ex := K6.size
 unfold Qea at hm
 refine qs 8 rfl<|qm rfl ?_
 have aR := (i.kz K6)
 obtain ⟨x5, cR, hm⟩ := bnd hm
 refine qe rfl (eC Xe0 rfl (Qk0 cR (Own.rd aR))) ?_
 rintro _ w7 ⟨b9, ca, cb, cc, cd, ce, bl, bm, bn, rfl, H, cf, I, cg, y, bo, dR, dS, dT, G7⟩
 have ey := G7.size
 have ch := H.lth
 have ci := I.lth
 have cj := y.lth
 refine qm rfl<|qm rfl<|qm rfl<|qe rfl (Qaa (cs := Qa4.cs (Qa4.mk 0#8 0 (Qa8.mk [] 0#64 [] k0 k0) 0#8 0#64 [] k0) (.slice none 0 0) (.slice none 0 0) (.slice none 0 0)) Qis rfl) ?_
 rintro _ w8 ⟨b8, rfl, dU, ck, G8⟩
 have ez := G8.size
 have dV := ck.lt
 have cl := (H.gr G8)
 have cm := (I.gr G8)
 have cn := (y.gr G8)
 refine qe rfl (Qah Qbu rfl rfl (Qa4.cs_ones _ _ _ _ (Own.oneB cl) (Own.oneB cm) (Own.oneB cn)) ck rfl rfl) ?_
 rintro _ w9 ⟨cS, M9⟩
 have eA := M9.size
 refine qm rfl<|Qa1<|Qa3 ?_
 have Y4 := Gr.trans G7 G8
 have co := (((cO.kz K6).trans Y4).md M9)
 refine qj (β := Bool) (rg 102 14) (fun a6 => [(115, .bool a6)]) (fun a6 wr => (Qe4 p2 x1 x3 a6 = some r) ∧ Kz [] w9 wr) ?_ ?_
 · refine qg 14 rfl<|qm rfl<|qv rfl (Qby (a := x5.2) (b := 0) rfl rfl)<|qp rfl (Qad rfl) (fun aS => ?_) (fun aS => ?_)
   · replace hm := iT aS hm
     refine qk rfl<|qk rfl<|qk rfl<|qk rfl<|qm rfl<|qm rfl<|qk rfl ?_
     refine qk rfl<|qk rfl<|qk rfl<|qm rfl<|Qa9 ?_
     exact ⟨rfl, true, sbq, hm, kz0⟩
   replace hm := iF aS hm
   refine qv rfl (Qa6 Qbu rfl cS rfl) ?_
   have cT := (((U.kz K6).gr Y4).md M9)
   refine qv rfl (Qa6 Qbu rfl cT rfl) ?_
   have cU := (cl.md M9 (Qan ch))
   have cV := (cm.md M9 (Qan ci))
   have cW := (cn.md M9 (Qan cj))
   have cX := ((((aO.gr G5).kz K6).gr Y4).md M9 (Qan cw))
   have cY := ((((aP.gr G5).kz K6).gr Y4).md M9 (Qan cx))
   have cZ := (((b7.kz K6).gr Y4).md M9 (Qan cy))
   obtain ⟨eB, cp, hm⟩ := bnd hm
   refine qe rfl (eC Xo2 rfl (Qrd cp (Own.rd cU) (Own.rd cV) (Own.rd cW) cX cY cZ)) ?_
   rintro _ eD ⟨rfl, aa⟩
   have eE := aa.size
   refine qv rfl (Qci rfl)<|qm rfl<|qp rfl (Qad rfl) (fun aT => ?_) (fun aT => ?_)
   · replace hm := Qc0 aT hm
     refine qk rfl<|qk rfl<|qk rfl<|qk rfl<|qm rfl<|Qa9 ?_
     exact ⟨rfl, true, sbq, hm, (kz0.gr aa)⟩
   replace hm := Qc1 aT hm
   refine qm rfl ?_
   have c0 := (((aR.gr Y4).md M9 (Qan g)).gr aa)
   refine qv rfl (Qba (l := x3.1) (c := bvc) Tryz.underlying50 rfl (Own.rd c0))<|qm rfl<|qv rfl (Qby (a := (x3.1.length : Int)) (b := a4) rfl rfl)<|qm rfl<|Qa9 ?_
   exact ⟨rfl, (decide ((x3.1.length : Int) ≠ a4)), sbq, hm, (kz0.gr aa)⟩
 clear hm; rintro a6 eF ⟨hm, ab⟩
 have eG := ab.size
 unfold Qe4 at hm
 refine Qal rfl (fun c5 => ?_) (fun c5 => ?_)
 · replace hm := Qc0 c5 hm
   refine qs 1 rfl<|qm rfl<|qb ?_
   have da := (co.kz ab)
   cases hm
   refine ⟨_, _, rfl, Qay rfl (Qac rfl), ?_⟩
   exact ⟨rfl, da⟩
 replace hm := Qc1 c5 hm
 refine qu<|qs 12 rfl<|qe rfl (Qcx ([] : List (BitVec 8)) bvc Qyr rfl rfl (Qh6 rfl) rfl rfl rfl) ?_
 rintro dW eH ⟨V, db, ap, aU⟩
 have eI := aU.size
 have dX := ap.lth
 refine qm rfl ?_
 have aV := ((((aR.gr Y4).md M9 (Qan g)).kz ab).gr aU)
 obtain ⟨l7, dc, hm⟩ := bnd hm
 refine qe rfl (Qfn (l := ([] : List (BitVec 8))) (m := x3.1) (c := bvc) Qp7 rfl rfl ap (Own.rd aV) dc (by decide)) ?_
 rintro dY eJ ⟨aq, ar, cq, O, dZ, W⟩
 have eK := O.size
 refine qe rfl (Qcx [0#8] bvc Qvf rfl rfl (Qh6 rfl) rfl rfl rfl) ?_
 rintro d0 eL ⟨d1, dd, au, X⟩
 have eM := X.size
 have d2 := au.lth
 have de := (cq.gr X)
 obtain ⟨l8, df, hm⟩ := bnd hm
 refine qe rfl (Qfn (l := l7) (m := [0#8]) (c := bvc) Qp7 rfl rfl de (Own.rd au) df (by decide)) ?_
 rintro d3 eN ⟨d4, d5, cr, Q, d6, d7⟩
 have eO := Q.size
 obtain ⟨x9, dg, hm⟩ := bnd hm
 refine qe rfl (eC Xe0 rfl (Qk0 dg (Own.rd cr))) ?_
 rintro _ eP ⟨bp, bq, br, bs, bu, bw, aW, aX, aY, rfl, z, bx, B, bz, j, aZ, di, dj, dk, ac⟩
 have eQ := ac.size
 have d8 := z.lth
 have d9 := B.lth
 have ea := j.lth
 refine qm rfl<|qm rfl<|qm rfl<|qe rfl (Qaa (cs := Qa4.cs (Qa4.mk 0#8 0 (Qa8.mk [] 0#64 [] k0 k0) 0#8 0#64 [] k0) (.slice none 0 0) (.slice none 0 0) (.slice none 0 0)) Qis rfl) ?_
 rintro _ eR ⟨eS, rfl, dl, av, L⟩
 have eT := L.size
 have eb := av.lt
 have dp := (z.gr L)
 have dq := (B.gr L)
 have dr := (j.gr L)
 refine qe rfl (Qah Qbu rfl rfl (Qa4.cs_ones _ _ _ _ (Own.oneB dp) (Own.oneB dq) (Own.oneB dr)) av rfl rfl) ?_
 rintro _ ds ⟨ec, ad⟩
 have eU := ad.size
 refine qm rfl<|Qa1<|Qa3 ?_
 have Y := ((((((((co.kz ab).trans aU).ka O (tk1 ((.inr tk0) : 1 = 0 ∨ w.heap.size ≤ V))).trans X).ka Q (tk1 (Qg4 (A := (fun x => w.heap.size ≤ x)) W (.inr tk0)))).trans ac).trans L).md ad)
 refine qj (β := Bool) (rg 125 8) (fun ae => [(132, .bool ae)]) (fun ae wr => (Qff p2 x1 x3 x9 ae = some r) ∧ Kz [] ds wr) ?_ ?_
 · refine qg 8 rfl<|qm rfl<|qv rfl (Qc9 (a := p2) (b := 0) rfl rfl)<|qp rfl (Qad rfl) (fun a0 => ?_) (fun a0 => ?_)
   · replace hm := iT a0 hm
     refine qk rfl<|qk rfl<|qk rfl<|qk rfl<|qm rfl<|Qa9 ?_
     exact ⟨rfl, true, sbq, hm, kz0⟩
   replace hm := iF a0 hm
   refine qm rfl<|qm rfl ?_
   have dt := ((((((aV.ka O (tk1 ((Qgb (.inr (tk1 g.o))) : d = 0 ∨ 1 = 0 ∨ f ≠ V))).gr X).ka Q (tk1 ((Qgb (Qg4 (A := (fun x => d = 0 ∨ x ≠ f)) W (.inr (tk1 g.o)) (fun x hx => (tk1 g.o)))) : d = 0 ∨ aq = 0 ∨ f ≠ ar))).gr ac).gr L).md ad (Qan g))
   refine qv rfl (Qba (l := x3.1) (c := bvc) Tryz.underlying50 rfl (Own.rd dt))<|qv rfl (Qdy (a := p2) (b := (x3.1.length : Int)) rfl rfl)<|qm rfl<|Qa9 ?_
   exact ⟨rfl, (decide ((x3.1.length : Int) ≤ p2)), sbq, hm, kz0⟩
 clear hm; rintro ae eV ⟨hm, M⟩
 have eW := M.size
 unfold Qff at hm
 refine Qal rfl (fun c6 => ?_) (fun c6 => ?_)
 · replace hm := Qc0 c6 hm
   refine qs 6 rfl<|qm rfl<|qp rfl (Qad rfl) (fun c7 => ?_) (fun c7 => ?_)
   · replace hm := Qc0 c7 hm
     refine qm rfl<|qv rfl (Qdj (a := x9.2) (b := 8) rfl rfl)<|qm rfl<|qm rfl<|Qa1<|Qaf<|Qb2 ?_
     have du := (Y.kz M)
     cases hm
     refine ⟨_, _, rfl, Qay rfl (Qac rfl), ?_⟩
     exact ⟨rfl, du⟩
   replace hm := Qc1 c7 hm
   refine qk rfl<|qk rfl<|qm rfl<|qm rfl<|Qa1<|Qaf<|Qb2 ?_
   have dv := (Y.kz M)
   cases hm
   refine ⟨_, _, rfl, Qay rfl (Qac rfl), ?_⟩
   exact ⟨rfl, dv⟩
 replace hm := Qc1 c6 hm
 refine qu<|qs 10 rfl<|qm rfl<|qm rfl ?_
 obtain ⟨eX, ct, hm⟩ := bnd hm
 have dy := (((((((aV.ka O (tk1 ((Qgb (.inr (tk1 g.o))) : d = 0 ∨ 1 = 0 ∨ f ≠ V))).gr X).ka Q (tk1 ((Qgb (Qg4 (A := (fun x => d = 0 ∨ x ≠ f)) W (.inr (tk1 g.o)) (fun x hx => (tk1 g.o)))) : d = 0 ∨ aq = 0 ∨ f ≠ ar))).gr ac).gr L).md ad (Qan g)).kz M)
 refine qt rfl (Qsw (P := Tryz.prog) (lo := 0) (hi := p2) (l := x3.1) (c := bvc) Tryz.underlying50 (Qcd).siz rfl (Own.rd dy) rfl ⟨_, rfl⟩ ct) ?_
 rintro eY eZ cu
 have ed := cu.lth
 obtain ⟨dz, cv, hm⟩ := bnd hm
 refine qe rfl (eC Xe0 rfl (Qk0 cv cu)) ?_
 rintro _ e0 ⟨bA, bB, bC, bD, bE, bF, a1, a3, a5, rfl, C, bG, D, bH, n, a7, dA, dB, dC, af⟩
 have e1 := af.size
 have ee := C.lth
 have ef := D.lth
 have eg := n.lth
 refine qm rfl<|qm rfl<|qm rfl<|qe rfl (Qaa (cs := Qa4.cs (Qa4.mk 0#8 0 (Qa8.mk [] 0#64 [] k0 k0) 0#8 0#64 [] k0) (.slice none 0 0) (.slice none 0 0) (.slice none 0 0)) Qis rfl) ?_
 rintro _ e2 ⟨e3, rfl, dD, aw, N⟩
 have e4 := N.size
 have eh := aw.lt
 have dE := (C.gr N)
 have dF := (D.gr N)
 have dG := (n.gr N)
 refine qe rfl (Qah Qbu rfl rfl (Qa4.cs_ones _ _ _ _ (Own.oneB dE) (Own.oneB dF) (Own.oneB dG)) aw rfl rfl) ?_
 rintro _ e5 ⟨ei, ag⟩
 have e6 := ag.size
 refine qm rfl<|qd 10 rfl<|qm rfl<|qpF rfl (Qad rfl) (fun c8 => ?_) (fun c8 => ?_)
 · replace hm := Qc1 c8 hm
   refine qk rfl<|qk rfl<|qm rfl<|qm rfl<|qk rfl<|qk rfl<|qm rfl ?_
   refine qm rfl<|Qa1<|Qaf ?_
   have dH := ((((Y.kz M).trans af).trans N).md ag)
   cases hm
   refine ⟨_, _, rfl, Qay rfl (Qac rfl), ?_⟩
   exact ⟨rfl, dH⟩
 replace hm := Qc0 c8 hm
 refine qm rfl<|qv rfl (Qdj (a := x9.2) (b := 8) rfl rfl)<|qm rfl<|qp rfl (Qad rfl) (fun c9 => ?_) (fun c9 => ?_)
 · replace hm := iT c9 hm
   refine qm rfl<|qv rfl (Qdj (a := dz.2) (b := 8) rfl rfl)<|qm rfl<|qm rfl<|Qa1<|Qaf ?_
   have dI := ((((Y.kz M).trans af).trans N).md ag)
   cases hm
   refine ⟨_, _, rfl, Qay rfl (Qac rfl), ?_⟩
   exact ⟨rfl, dI⟩
 replace hm := iF c9 hm
 refine qk rfl<|qk rfl<|qm rfl<|qm rfl<|Qa1<|Qaf ?_
 have dJ := ((((Y.kz M).trans af).trans N).md ag)
 cases hm
 refine ⟨_, _, rfl, Qay rfl (Qac rfl), ?_⟩
 exact ⟨rfl, dJ⟩
end Go.Proofs.YtjdffpglgkefmaaGreat.Mx
