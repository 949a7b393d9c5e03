/- Walks that follow mirrors: Oe5. Printed by mx.py. -/
import Derived.Test.YtjdffpglgkefmaaGreatXg
import Derived.Test.YtjdffpglgkefmaaGreatZd
set_option linter.unusedVariables false
set_option linter.unusedSimpArgs false
set_option maxRecDepth 100000
set_option maxHeartbeats 2000000
namespace Go.Proofs.YtjdffpglgkefmaaGreat.Mx
open Go Go.RowKit Go.Sx
theorem Xtc : En Tryz.prog 42 := fun _ _ => by kernel_rfl
theorem Xuf : En Tryz.prog 54 := fun _ _ => by kernel_rfl
theorem Xf9 {p0 p1 vp0 zp0 gp0 op0 r} (hm : Qsm p0 p1 = some r) {w : World} (f : Rd w zp0 gp0 op0 1 vp0 (p0.map ic)) :
    Calls Tryz.prog 54 [vp0, .int .i64 p1].toArray w fun e w' => ∃ v, e = .returned v ∧ (v = .bool r ∧ Gr w w') := by
 unfold Qsm at hm
 refine Qa5 18 Tryz.func54 rfl rfl rfl<|qs 1 rfl<|qm rfl<|Qa1<|Qa3<|Qa3 ?_
 refine qg 3 rfl<|qm rfl<|qv rfl (Qbi (l := p0) (c := ic) Tryz.underlying44 rfl f)<|qm rfl<|Qa1<|Qan<|Qbj (α := Nat × Int) ([4, 5] ++ rg 8 10) (fun ⟨n1, a2⟩ => [(4, .bool false), (8, .int .i64 a2)]) (fun ⟨n1, a2⟩ wr => (Qc3 (Qja p0 p1) n1 a2 = some r) ∧ Kz [] w wr) (fun ⟨n1, a2⟩ => n1) ⟨Qcw, 0⟩ ?_ ?_ ?_
 · exact sbq
 · exact ⟨hm, Kz.refl _ _⟩
 clear hm; rintro ⟨n1, a2⟩ w1 ⟨hm, K1⟩
 have hb := Qbv hm; clear hm; obtain ⟨n1, rfl, hm⟩ := hb
 generalize d : Qc3 (Qja p0 p1) n1 = h at hm
 unfold Qja at hm
 try dsimp only at hm
 refine qs 1 rfl<|qv rfl (Qcd (a := a2) (b := (p0.length : Int)) rfl rfl)<|Qa1<|Qa3<|cnF rfl (fun c1 => ?_) (fun c1 => ?_)
 · replace hm := iF c1 hm
   refine Qbp<|Qb4<|Qb4<|Qbq<|Qaz<|qs 1 rfl ?_
   refine qm rfl<|Qa1<|Qag ?_
   have X6 := ((Gr.refl w).kz K1)
   cases hm
   refine ⟨_, _, rfl, Qb1 rfl (Qab rfl), ?_⟩
   exact ⟨rfl, X6⟩
 replace hm := iT c1 hm
 refine qu<|Qa3<|Qan<|qs 2 rfl<|qm rfl ?_
 refine qm rfl<|qd 6 rfl<|qm rfl<|qm rfl ?_
 obtain ⟨y3, g, hm⟩ := bnd hm
 have B3 := (f.kz K1)
 refine qv rfl (Qf7 (i := a2) Tryz.underlying44 (Qaw).siz rfl B3 rfl g)<|qv rfl (Qk9 (q := 0) (u := .int .i64 y3) Qaw rfl B3 g (by first | rfl | omega) rfl)<|qm rfl<|qv rfl (Qeh (a := y3) (b := p1) rfl rfl)<|Qa1<|Qam rfl (fun c2 => ?_) (fun c2 => ?_)
 · replace hm := iT c2 hm
   refine qs 1 rfl<|qm rfl<|Qa1<|Qag<|Qbo<|Qb2 ?_
   refine Qb2<|Qbo<|Qb2 ?_
   have X4 := ((Gr.refl w).kz K1)
   cases hm
   refine ⟨_, _, rfl, Qb1 rfl (Qab rfl), ?_⟩
   exact ⟨rfl, X4⟩
 replace hm := iF c2 hm
 refine Qc4<|Qay<|Qaz<|qg 2 rfl<|qv rfl (Qce (k := .i64) (a := a2) (b := 1) rfl rfl)<|qm rfl<|Qa9 ?_
 have K_5 : Kz [] w w1 := K1
 subst d
 exact ⟨rfl, ⟨n1, w64 (a2 + 1)⟩, sbq, ⟨hm, K_5⟩, Nat.lt_succ_self _⟩
theorem Qt5 {p0 p1 p2 p3 p4 vp3 zp3 gp3 op3 r} (hm : Qj5 p0 p1 p2 p3 p4 = some r) {w : World} (q : Rd w zp3 gp3 op3 1 vp3 (p3.map ic)) :
    Calls Tryz.prog 10 [kv p0, .agg (Qa7.cs p1).toArray, .int .i64 p2, vp3, .int .i64 p4].toArray w fun e w' => ∃ v, e = .returned v ∧ (v = .bool r ∧ Gr w w') := by
 have s := q.lth
 unfold Qj5 at hm
 refine Qa5 76 Tryz.func10 rfl rfl rfl<|qs 3 rfl<|qe rfl (Qaq (cs := kb p0) rfl rfl) ?_
 rintro _ w1 ⟨b1, rfl, aE, z, G1⟩
 have aM := z.lt
 refine qe rfl (Qaq (cs := Qa7.cs p1) rfl rfl) ?_
 rintro _ w2 ⟨b2, rfl, aF, A, G2⟩
 have aN := A.lt
 refine qm rfl<|qd 2 rfl ?_
 obtain ⟨x1, ac, hm⟩ := bnd hm
 refine qe rfl (eC Xtc rfl (Qyg ac)) ?_
 rintro _ w3 ⟨rfl, G3⟩
 have z6 := G3.size
 refine qm rfl<|Qa1<|Qa3 ?_
 have Y1 := Gr.trans (Gr.trans G1 G2) G3
 have X7 := ((Gr.refl w).trans Y1)
 refine qj (β := Bool) (rg 19 7) (fun a2 => [(25, .bool a2)]) (fun a2 wr => (Qfj p0 p1 p2 p3 p4 x1 a2 = some r) ∧ Kz [] w3 wr) ?_ ?_
 · refine qg 7 rfl<|qm rfl ?_
   have ad := (q.gr Y1)
   refine qv rfl (Qbi (l := p3) (c := ic) Tryz.underlying44 rfl ad)<|qv rfl (Qey (a := (p3.length : Int)) (b := 100) rfl rfl)<|qp rfl (Qac rfl) (fun c8 => ?_) (fun c8 => ?_)
   · replace hm := iT c8 hm
     refine qk rfl<|qk rfl<|qm rfl<|Qa9 ?_
     exact ⟨rfl, true, sbq, hm, kz0⟩
   replace hm := iF c8 hm
   refine qm rfl<|qv rfl (Qci rfl)<|qm rfl<|Qa9 ?_
   exact ⟨rfl, (!x1), sbq, hm, kz0⟩
 clear hm; rintro a2 w4 ⟨hm, K4⟩
 have z8 := K4.size
 unfold Qfj at hm
 refine Qam rfl (fun c1 => ?_) (fun c1 => ?_)
 · replace hm := Qc8 c1 hm
   refine qs 2 rfl<|qm rfl<|qm rfl<|Qa1<|Qag<|Qb2 ?_
   have X9 := (X7.kz K4)
   cases hm
   refine ⟨_, _, rfl, Qb1 rfl (Qab rfl), ?_⟩
   exact ⟨rfl, X9⟩
 replace hm := Qc7 c1 hm
 refine qu<|qs 11 rfl ?_
 have Y2 := Gr.trans G2 G3
 have B := ((z.gr Y2).kz K4)
 refine qv rfl (Qa4 Qak rfl B rfl) ?_
 have C := ((A.gr G3).kz K4)
 refine qv rfl (Qa4 Qcn rfl C rfl)<|qm rfl<|qm rfl ?_
 have D := ((q.gr Y1).kz K4)
 obtain ⟨x3, ae, hm⟩ := bnd hm
 refine qe rfl (eC Xsp rfl (Qup ae D)) ?_
 rintro _ w5 ⟨E, F, G, H, I, J, rfl, g, K, i, L, aG, G5⟩
 have aO := G5.size
 have o := g.lth
 have p := i.lth
 refine qm rfl<|qm rfl<|qm rfl<|qe rfl (Qa8 (cs := Qaa.cs (Qaa.mk [] 0#64 [] k0 k0) (.slice none 0 0) (.slice none 0 0)) Quy rfl) ?_
 rintro _ w6 ⟨b6, rfl, aH, M, G6⟩
 have aI := M.lt
 have N := (g.gr G6)
 have O := (i.gr G6)
 refine qe rfl (Qaj Qcs rfl rfl (Qaa.cs_ones _ _ _ (Own.oneB N) (Own.oneB O)) M rfl rfl) ?_
 rintro _ w7 ⟨af, M7⟩
 have aP := M7.size
 refine qm rfl<|qd 10 rfl ?_
 have Y3 := Gr.trans G5 G6
 have P := ((B.gr Y3).md M7)
 refine qv rfl (Qa4 Qak rfl P rfl) ?_
 have Q := ((C.gr Y3).md M7)
 refine qv rfl (Qa4 Qcn rfl Q rfl)<|qm rfl ?_
 obtain ⟨x4, ag, hm⟩ := bnd hm
 refine qe rfl (eC Xqh rfl (Qr7 ag)) ?_
 rintro _ w8 ⟨R, S, T, rfl, j, U, G8⟩
 have aQ := G8.size
 have V := j.lth
 refine qm rfl<|qm rfl<|qm rfl<|qe rfl (Qa8 (cs := Qae.cs (Qae.mk 0 [] (Qah.mk 0#64 0#64)) (.slice none 0 0)) Xbe rfl) ?_
 rintro _ w9 ⟨b9, rfl, aJ, W, G9⟩
 have aK := W.lt
 have X := (j.gr G9)
 refine qe rfl (Qaj Qeg rfl rfl (Qae.cs_ones _ _ (Own.oneB X)) W rfl rfl) ?_
 rintro _ ah ⟨Y, f⟩
 have aR := f.size
 refine qm rfl<|Qa1<|Qa3 ?_
 have Y4 := Gr.trans G8 G9
 have m := (((((X7.kz K4).trans Y3).md M7).trans Y4).md f)
 refine qj (β := Bool) (rg 42 6) (fun a5 => [(47, .bool a5)]) (fun a5 wr => (Qda p0 p1 p2 p3 p4 x1 x3 x4 a5 = some r) ∧ Kz [] ah wr) ?_ ?_
 · refine qg 6 rfl<|qm rfl<|qv rfl (Qc2 (a := x3.2) (b := 0) rfl rfl)<|qp rfl (Qac rfl) (fun c7 => ?_) (fun c7 => ?_)
   · replace hm := iT c7 hm
     refine qk rfl<|qk rfl<|qm rfl<|Qa9 ?_
     exact ⟨rfl, true, sbq, hm, kz0⟩
   replace hm := iF c7 hm
   refine qm rfl<|qv rfl (Qc2 (a := x4.2) (b := 0) rfl rfl)<|qm rfl<|Qa9 ?_
   exact ⟨rfl, (decide (x4.2 ≠ 0)), sbq, hm, kz0⟩
 clear hm; rintro a5 aS ⟨hm, d⟩
 have aT := d.size
 unfold Qda at hm
 refine Qam rfl (fun c2 => ?_) (fun c2 => ?_)
 · replace hm := Qc8 c2 hm
   refine qs 2 rfl<|qm rfl<|qm rfl<|Qa1<|Qag<|Qb2 ?_
   have ai := (m.kz d)
   cases hm
   refine ⟨_, _, rfl, Qb1 rfl (Qab rfl), ?_⟩
   exact ⟨rfl, ai⟩
 replace hm := Qc7 c2 hm
 refine qu<|qs 10 rfl ?_
 have aj := (((Q.gr Y4).md f).kz d)
 refine qv rfl (Qa4 Qcn rfl aj rfl) ?_
 have ak := (Y.kz d)
 refine qv rfl (Qa4 Qeg rfl ak rfl) ?_
 have al := (((af.gr Y4).md f).kz d)
 refine qv rfl (Qa4 Qcs rfl al rfl) ?_
 have am := ((X.md f (Qau V)).kz d)
 have an := ((((N.md M7 (Qau o)).gr Y4).md f (Qau o)).kz d)
 have ao := ((((O.md M7 (Qau p)).gr Y4).md f (Qau p)).kz d)
 obtain ⟨x6, ap, hm⟩ := bnd hm
 refine qe rfl (eC Xn0 rfl (Qq8 ap (Own.rd am) (Own.rd an) (Own.rd ao))) ?_
 rintro _ aU ⟨rfl, Z⟩
 have aV := Z.size
 refine qm rfl<|qm rfl<|qm rfl<|qe rfl (Qa8 (cs := kb k0) Qeo rfl) ?_
 rintro _ aW ⟨aX, rfl, aq, aa, ar⟩
 refine qe rfl (Qaj Qak rfl rfl rfl aa rfl rfl) ?_
 rintro _ aY ⟨ab, k⟩
 refine qm rfl<|Qa1<|Qa3<|qs 3 rfl<|qm rfl<|qm rfl ?_
 have Y5 := Gr.trans Z ar
 have au := (((((((D.gr Y3).md M7 (Qau s)).gr Y4).md f (Qau s)).kz d).gr Y5).md k (Qau s))
 obtain ⟨x7, av, hm⟩ := bnd hm
 refine qe rfl (eC Xuf rfl (Xf9 av au)) ?_
 rintro _ aZ ⟨rfl, n⟩
 refine Qa1<|Qam rfl (fun c3 => ?_) (fun c3 => ?_)
 · replace hm := Qc8 c3 hm
   refine qs 6 rfl<|qm rfl<|qp rfl (Qac rfl) (fun c4 => ?_) (fun c4 => ?_)
   · replace hm := Qc8 c4 hm
     refine qm rfl<|qv rfl (Qeh (a := x6.2) (b := 6) rfl rfl)<|qm rfl<|qm rfl<|Qa1<|Qag<|Qb2 ?_
     have aw := ((((m.kz d).trans Y5).md k).trans n)
     cases hm
     refine ⟨_, _, rfl, Qb1 rfl (Qab rfl), ?_⟩
     exact ⟨rfl, aw⟩
   replace hm := Qc7 c4 hm
   refine qk rfl<|qk rfl<|qm rfl<|qm rfl<|Qa1<|Qag<|Qb2 ?_
   have ax := ((((m.kz d).trans Y5).md k).trans n)
   cases hm
   refine ⟨_, _, rfl, Qb1 rfl (Qab rfl), ?_⟩
   exact ⟨rfl, ax⟩
 replace hm := Qc7 c3 hm
 refine qu<|Qa3<|dw [([])] [] (.leaf [(0,10),(1,10),(2,10),(3,10),(4,10),(5,10),(6,10),(7,10),(8,10),(9,0),(10,10),(11,10),(12,10)]) ?_
 intro t u aL
 refine Qal<|dm 0 rfl rfl<|qqF 0 rfl rfl (Kp.refl ([]) t) (fun w hS => Qac rfl) (fun c5 => ?_) (fun c5 => ?_)
 · replace hm := Qc7 c5 hm
   refine dx 0 rfl rfl<|dx 0 rfl rfl<|dm 0 rfl rfl<|dm 0 rfl rfl<|dx 0 rfl rfl<|dx 0 rfl rfl<|dx 0 rfl rfl ?_
   refine qy rfl<|dx 0 rfl rfl<|dm 0 rfl rfl<|dm 0 rfl rfl<|Qa1<|Qag ?_
   have Y6 := Gr.trans n u
   have ay := ((((m.kz d).trans Y5).md k).trans Y6)
   cases hm
   refine ⟨_, _, rfl, Qb1 rfl (Qab rfl), ?_⟩
   exact ⟨rfl, ay⟩
 replace hm := Qc8 c5 hm
 refine dm 0 rfl rfl<|dh 0 rfl rfl (fun w hS => Qeh (a := x6.2) (b := 0) rfl rfl)<|dm 0 rfl rfl<|qqF 0 rfl rfl (Kp.refl ([]) t) (fun w hS => Qac rfl) (fun c6 => ?_) (fun c6 => ?_)
 · replace hm := iF c6 hm
   refine dx 0 rfl rfl<|dx 0 rfl rfl<|dx 0 rfl rfl<|qy rfl<|dx 0 rfl rfl<|dm 0 rfl rfl<|dm 0 rfl rfl ?_
   refine Qa1<|Qag ?_
   have Y7 := Gr.trans n u
   have az := ((((m.kz d).trans Y5).md k).trans Y7)
   cases hm
   refine ⟨_, _, rfl, Qb1 rfl (Qab rfl), ?_⟩
   exact ⟨rfl, az⟩
 replace hm := iT c6 hm
 have Y8 := Gr.trans n u
 have aA := (ab.gr Y8)
 refine dh 0 rfl rfl (fun w hS => Qa4 Qak rfl (Bx.kp aA hS) rfl) ?_
 have aB := ((((((P.gr Y4).md f).kz d).gr Y5).md k).gr Y8)
 refine dh 0 rfl rfl (fun w hS => Qa4 Qak rfl (Bx.kp aB hS) rfl)<|dm 0 rfl rfl ?_
 obtain ⟨x8, aC, hm⟩ := bnd hm
 refine qz [] rfl (eC Xeu rfl (Qgk aC)) ⟨fun _ => tk0, trivial⟩ ?_
 rintro _ a0 ⟨rfl, x⟩
 refine kG x ?_
 have y := ((Kp.refl ([]) t).gr x)
 refine qh 0 rfl rfl y (fun w hS => Qv9 (cf := kb) (a := x6.1) (b := x8) Qqd rfl rfl rfl rfl (fun h => Qng h))<|dn 0 rfl rfl y<|dn 0 rfl rfl y<|Qa1<|Qag ?_
 have aD := (((((m.kz d).trans Y5).md k).trans Y8).trans x)
 cases hm
 refine ⟨_, _, rfl, Qb1 rfl (Qab rfl), ?_⟩
 exact ⟨rfl, aD⟩
end Go.Proofs.YtjdffpglgkefmaaGreat.Mx
