/- Walks that follow mirrors: Tk5. Printed by mx.py. -/
import Derived.Test.YtgdojjniakpadaaGreatUf
import Derived.Test.YtgdojjniakpadaaGreatZd
set_option linter.unusedVariables false
set_option linter.unusedSimpArgs false
set_option maxRecDepth 100000
set_option maxHeartbeats 2000000
namespace Go.Proofs.YtgdojjniakpadaaGreat.Mx
open Go Go.RowKit Go.Sx
theorem Qy4 : En Tryz.prog 13 := fun _ _ => by kernel_rfl
theorem Qy8 : En Tryz.prog 15 := fun _ _ => by kernel_rfl
theorem Qy9 : En Tryz.prog 16 := fun _ _ => by kernel_rfl
theorem Qya : En Tryz.prog 17 := fun _ _ => by kernel_rfl
theorem Qyd : En Tryz.prog 18 := fun _ _ => by kernel_rfl
theorem Qln : En Tryz.prog 19 := fun _ _ => by kernel_rfl
theorem Xce {p0 p1 p2 p3 p4 p5 vp3_1 zp3_1 gp3_1 op3_1 vp4_2 zp4_2 gp4_2 op4_2 vp4_4 zp4_4 gp4_4 op4_4 vp4_39 zp4_39 gp4_39 op4_39 r} (hm : Qis p0 p1 p2 p3 p4 p5 = some r) {w : World} (ay : Rd w zp3_1 gp3_1 op3_1 18 vp3_1 (p3.Secret.Labels.map Xn.cs)) (az : Rd w zp4_2 gp4_2 op4_2 18 vp4_2 (p4.Head.Items.map Zd.cs)) (aA : Rd w zp4_4 gp4_4 op4_4 2 vp4_4 (p4.Head.Points.map Qu.cs)) (aq : Rd w zp4_39 gp4_39 op4_39 1 vp4_39 (p4.Data.map Xq)) :
    Calls Tryz.prog 4 [kv p0, .agg (Qs.cs p1).toArray, .agg (Za.cs p2).toArray, .agg (Qw.cs p3 vp3_1).toArray, .agg (Ze.cs p4 vp4_2 vp4_4 vp4_39).toArray, .int .i64 p5].toArray w fun e w' => ∃ v, e = .returned v ∧ (v = .bool r ∧ Gr w w') := by
 have ah := ay.lth
 have an := az.lth
 have ao := aA.lth
 have ak := aq.lth
 unfold Qis at hm
 refine Xe 156 Tryz.func4 rfl rfl rfl<|qs 6 rfl<|qe rfl (Qy (cs := kb p0) rfl rfl) ?_
 rintro _ w1 ⟨b1, rfl, dO, bA, G1⟩
 have z5 := G1.size
 have em := bA.lt
 refine qe rfl (Qy (cs := Qs.cs p1) rfl rfl) ?_
 rintro _ w2 ⟨b2, rfl, dP, bB, G2⟩
 have z7 := G2.size
 have en := bB.lt
 refine qe rfl (Qy (cs := Za.cs p2) rfl rfl) ?_
 rintro _ w3 ⟨b3, rfl, dQ, bC, G3⟩
 have z9 := G3.size
 have dR := bC.lt
 refine qe rfl (Qy (cs := Qw.cs p3 vp3_1) rfl rfl) ?_
 rintro _ w4 ⟨b4, rfl, dS, bD, G4⟩
 have eo := G4.size
 have dT := bD.lt
 refine qe rfl (Qy (cs := Ze.cs p4 vp4_2 vp4_4 vp4_39) rfl rfl) ?_
 rintro _ w5 ⟨b5, rfl, dU, aZ, G5⟩
 have ep := G5.size
 have dV := aZ.lt
 refine qm rfl<|Qa<|Qe<|qs 4 rfl<|qv rfl (Qb Pp rfl) ?_
 have bE := (bD.gr G5)
 refine qv rfl (Zy (vs := Qq.cs p3.Secret vp3_1) Jc rfl bE rfl rfl)<|qv rfl (Qp Dm rfl aZ rfl) ?_
 have Y1 := Gr.trans (Gr.trans (Gr.trans (Gr.trans G1 G2) G3) G4) G5
 have bF := (ay.gr Y1)
 have bG := (az.gr Y1)
 have bH := (aA.gr Y1)
 have bI := (aq.gr Y1)
 obtain ⟨x1, cY, hm⟩ := Qc hm
 refine qe rfl (eC Qy4 rfl (Xf6 cY bF bG bH bI)) ?_
 rintro _ w6 ⟨rfl, G6⟩
 have er := G6.size
 refine Qa<|Xj rfl (fun c1 => ?_) (fun c1 => ?_)
 · replace hm := Xx c1 hm
   refine qs 1 rfl<|qm rfl<|qb ?_
   have cZ := (((Gr.refl w).trans Y1).trans G6)
   cases hm
   refine ⟨_, _, rfl, Qt rfl (Qg rfl), ?_⟩
   exact ⟨rfl, cZ⟩
 replace hm := Xw c1 hm
 refine qu<|qs 4 rfl ?_
 have bJ := (bE.gr G6)
 refine qv rfl (Qp Zr rfl bJ rfl) ?_
 have bK := (bF.gr G6)
 obtain ⟨x2, c0, hm⟩ := Qc hm
 refine qe rfl (eC Qlj rfl (Qny c0 bK)) ?_
 rintro _ w7 ⟨bL, L, M, rfl, al, bM, G7⟩
 have es := G7.size
 have H := al.lth
 refine qe rfl (Xh (cs := Qw.cs (Qw.mk (Qq.mk 0 [] (Qu.mk 0#64 0#64)) 0 (Zp.mk (Xg.mk false 0 k0) (Xg.mk false 0 k0))) (.slice none 0 0)) Gm rfl) ?_
 rintro _ w8 ⟨b8, rfl, dW, bN, G8⟩
 have et := G8.size
 have dX := bN.lt
 have bO := (al.gr G8)
 refine qe rfl (Qx Zr rfl rfl (Qw.cs_ones _ _ (Qn.oneB bO)) bN rfl rfl) ?_
 rintro _ w9 ⟨da, M9⟩
 have eu := M9.size
 refine qd 15 rfl ?_
 have Y2 := Gr.trans (Gr.trans (Gr.trans (Gr.trans (Gr.trans (Gr.trans G2 G3) G4) G5) G6) G7) G8
 have bP := ((bA.gr Y2).md M9)
 refine qv rfl (Qp Ql rfl bP rfl) ?_
 have Y3 := Gr.trans (Gr.trans (Gr.trans (Gr.trans (Gr.trans G3 G4) G5) G6) G7) G8
 have bQ := ((bB.gr Y3).md M9)
 refine qv rfl (Qp Zw rfl bQ rfl) ?_
 have Y4 := Gr.trans (Gr.trans (Gr.trans (Gr.trans G4 G5) G6) G7) G8
 have bR := ((bC.gr Y4).md M9)
 refine qv rfl (Qp Yt rfl bR rfl)<|qv rfl (Qb Pp rfl)<|qv rfl (Qb Cb rfl) ?_
 have Y5 := Gr.trans G7 G8
 have a0 := ((bJ.gr Y5).md M9)
 refine qv rfl (Qd (v := .int .i64 p3.Secret.Receiver) Qv rfl a0 rfl)<|qv rfl (Qb Nb rfl)<|qv rfl (Qd (v := .int .i64 p3.Ahead) Qv rfl a0 rfl) ?_
 obtain ⟨x3, db, hm⟩ := Qc hm
 refine qe rfl (eC Qy8 rfl (Xaf db)) ?_
 rintro _ ew ⟨bl, W, X, rfl, Y, bm, bS⟩
 have ex := bS.size
 have I := Y.lth
 refine qm rfl<|qm rfl<|qm rfl<|qe rfl (Xh (cs := Qw.cs (Qw.mk (Qq.mk 0 [] (Qu.mk 0#64 0#64)) 0 (Zp.mk (Xg.mk false 0 k0) (Xg.mk false 0 k0))) (.slice none 0 0)) Gm rfl) ?_
 rintro _ ey ⟨ez, rfl, dc, aO, a1⟩
 have eA := a1.size
 have dY := aO.lt
 have a2 := (Y.gr a1)
 refine qe rfl (Qx Zr rfl rfl (Qw.cs_ones _ _ (Qn.oneB a2)) aO rfl rfl) ?_
 rintro _ eB ⟨bT, J⟩
 have eD := J.size
 refine qm rfl<|qd 15 rfl ?_
 have Y6 := Gr.trans bS a1
 have dd := ((bP.gr Y6).md J)
 refine qv rfl (Qp Ql rfl dd rfl) ?_
 have bU := ((bQ.gr Y6).md J)
 refine qv rfl (Qp Zw rfl bU rfl) ?_
 have bV := ((bR.gr Y6).md J)
 refine qv rfl (Qp Yt rfl bV rfl)<|qv rfl (Qb Pp rfl)<|qv rfl (Qb Cb rfl) ?_
 have a3 := ((a0.gr Y6).md J)
 refine qv rfl (Qd (v := .int .i64 p3.Secret.Receiver) Qv rfl a3 rfl)<|qv rfl (Qb Nb rfl)<|qv rfl (Qd (v := .int .i64 p3.Ahead) Qv rfl a3 rfl) ?_
 obtain ⟨x4, de, hm⟩ := Qc hm
 refine qe rfl (eC Qy9 rfl (Xf7 de)) ?_
 rintro _ eE ⟨bo, Z, aa, rfl, ab, bp, bW⟩
 have eF := bW.size
 have Q := ab.lth
 refine qm rfl<|qm rfl<|qm rfl<|qe rfl (Xh (cs := Qw.cs (Qw.mk (Qq.mk 0 [] (Qu.mk 0#64 0#64)) 0 (Zp.mk (Xg.mk false 0 k0) (Xg.mk false 0 k0))) (.slice none 0 0)) Gm rfl) ?_
 rintro _ eG ⟨eH, rfl, df, aP, a4⟩
 have eI := a4.size
 have dZ := aP.lt
 have a5 := (ab.gr a4)
 refine qe rfl (Qx Zr rfl rfl (Qw.cs_ones _ _ (Qn.oneB a5)) aP rfl rfl) ?_
 rintro _ eJ ⟨bX, D⟩
 have eK := D.size
 refine qm rfl<|qd 14 rfl ?_
 have Y7 := Gr.trans bW a4
 have bY := ((bU.gr Y7).md D)
 refine qv rfl (Qp Zw rfl bY rfl) ?_
 have bZ := ((bV.gr Y7).md D)
 refine qv rfl (Qp Yt rfl bZ rfl) ?_
 have a6 := ((((da.gr Y6).md J).gr Y7).md D)
 refine qv rfl (Qp Zr rfl a6 rfl) ?_
 have Y8 := Gr.trans G6 Y5
 have b0 := ((((((aZ.gr Y8).md M9).gr Y6).md J).gr Y7).md D)
 refine qv rfl (Qp Dm rfl b0 rfl)<|qm rfl ?_
 have a8 := (((((bO.md M9 (Xd H)).gr Y6).md J (Xd H)).gr Y7).md D (Xd H))
 have b6 := ((((((bG.gr Y8).md M9 (Xd an)).gr Y6).md J (Xd an)).gr Y7).md D (Xd an))
 have b7 := ((((((bH.gr Y8).md M9 (Xd ao)).gr Y6).md J (Xd ao)).gr Y7).md D (Xd ao))
 have b9 := ((((((bI.gr Y8).md M9 (Xd ak)).gr Y6).md J (Xd ak)).gr Y7).md D (Xd ak))
 obtain ⟨x5, dg, hm⟩ := Qc hm
 refine qe rfl (eC Qya rfl (Xah dg (Qn.rd a8) b6 b7 b9)) ?_
 rintro _ eL ⟨ac, f, g, au, n, s, rfl, ad, j, O, t, a9, ca⟩
 have eM := ca.size
 have T := ad.lth
 have am := O.lth
 refine qm rfl<|qm rfl<|qm rfl<|qm rfl<|qe rfl (Xh (cs := Qw.cs (Qw.mk (Qq.mk 0 [] (Qu.mk 0#64 0#64)) 0 (Zp.mk (Xg.mk false 0 k0) (Xg.mk false 0 k0))) (.slice none 0 0)) Gm rfl) ?_
 rintro _ eN ⟨N, rfl, di, aQ, aB⟩
 have eO := aB.size
 have d0 := aQ.lt
 have ba := (ad.gr aB)
 refine qe rfl (Qx Zr rfl rfl (Qw.cs_ones _ _ (Qn.oneB ba)) aQ rfl rfl) ?_
 rintro _ eP ⟨aR, C⟩
 have eQ := C.size
 refine qm rfl<|qm rfl<|qd 14 rfl ?_
 have Y9 := Gr.trans ca aB
 have cb := ((bY.gr Y9).md C)
 refine qv rfl (Qp Zw rfl cb rfl) ?_
 have cc := ((bZ.gr Y9).md C)
 refine qv rfl (Qp Yt rfl cc rfl) ?_
 have bb := ((((a3.gr Y7).md D).gr Y9).md C)
 refine qv rfl (Qp Zr rfl bb rfl) ?_
 have cd := ((b0.gr Y9).md C)
 refine qv rfl (Qp Dm rfl cd rfl)<|qm rfl ?_
 have bd := ((((((((bK.gr Y5).md M9 (Xd ah)).gr Y6).md J (Xd ah)).gr Y7).md D (Xd ah)).gr Y9).md C (Xd ah))
 have ce := ((b6.gr Y9).md C (Xd an))
 have cf := ((b7.gr Y9).md C (Xd ao))
 have cg := ((b9.gr Y9).md C (Xd ak))
 obtain ⟨x6, dj, hm⟩ := Qc hm
 refine qe rfl (eC Qyd rfl (Xfe dj bd ce cf cg)) ?_
 rintro _ eR ⟨bq, br, bs, bu, bx, bz, rfl, ae, af, P, ag, dk, ch⟩
 have eS := ch.size
 have aS := ae.lth
 have aT := P.lth
 refine qm rfl<|qm rfl<|qm rfl<|qm rfl<|qe rfl (Xh (cs := Qw.cs (Qw.mk (Qq.mk 0 [] (Qu.mk 0#64 0#64)) 0 (Zp.mk (Xg.mk false 0 k0) (Xg.mk false 0 k0))) (.slice none 0 0)) Gm rfl) ?_
 rintro _ eT ⟨eU, rfl, dl, aU, aC⟩
 have eV := aC.size
 have d1 := aU.lt
 have bf := (ae.gr aC)
 refine qe rfl (Qx Zr rfl rfl (Qw.cs_ones _ _ (Qn.oneB bf)) aU rfl rfl) ?_
 rintro _ dp ⟨ci, z⟩
 have eW := z.size
 refine qm rfl<|qm rfl<|Qa ?_
 have B := Gr.trans ch aC
 have dq := ((((((((((((Gr.refl w).trans Y1).trans Y8).md M9).trans Y6).md J).trans Y7).md D).trans Y9).md C).trans B).md z)
 refine qj (β := Bool) ([24] ++ rg 78 36) (fun a7 => [(24, .bool a7)]) (fun a7 wr => (Se p3 p4 x2 x5 a7 = some r) ∧ Kz [] dp wr) ?_ ?_
 · refine dw [([])] [] (.leaf [(0,10),(1,10),(2,0),(3,10),(4,10),(5,10),(6,10),(7,10),(8,10),(9,10),(10,10),(11,10),(13,10),(14,10),(15,10),(12,0),(16,0),(17,10),(18,10),(19,10),(20,10),(21,10),(22,0),(23,10),(24,10),(25,10),(26,10),(27,10),(28,10),(29,10),(30,10),(31,10),(32,10),(33,10),(34,10),(35,10),(36,10)]) ?_
   intro dr K d2
   refine Zj ?_
   have cj := (((((((bT.gr Y7).md D).gr Y9).md C).gr B).md z).gr K)
   refine dh 0 rfl rfl (fun w hS => Qp Zr rfl (Bx.kp cj hS) rfl) ?_
   have ck := (((((bX.gr Y9).md C).gr B).md z).gr K)
   refine dh 0 rfl rfl (fun w hS => Qp Zr rfl (Bx.kp ck hS) rfl) ?_
   have cl := ((((((((a2.md J (Xd I)).gr Y7).md D (Xd I)).gr Y9).md C (Xd I)).gr B).md z (Xd I)).gr K)
   have cm := ((((((a5.md D (Xd Q)).gr Y9).md C (Xd Q)).gr B).md z (Xd Q)).gr K)
   obtain ⟨eX, cn, hm⟩ := Qc hm
   refine qz [] rfl (eC Qln rfl (Qnw cn (Qn.rd cl) (Qn.rd cm))) ⟨fun _ => Qj, trivial⟩ ?_
   rintro _ eY ⟨rfl, av⟩
   have d3 := av.size
   refine kG av ?_
   have d := ((Kp.refl ([]) dr).gr av)
   refine Nh 0 rfl rfl d (fun w hS => Qm rfl) (fun c6 => ?_) (fun c6 => ?_)
   · replace hm := Xw c6 hm
     refine qx 0 rfl rfl d<|qx 0 rfl rfl d<|qx 0 rfl rfl d<|dn 0 rfl rfl d<|dn 0 rfl rfl d<|qx 0 rfl rfl d<|qx 0 rfl rfl d<|qx 0 rfl rfl d<|qx 0 rfl rfl d<|qx 0 rfl rfl d<|qx 0 rfl rfl d<|qy rfl<|qy rfl<|qx 0 rfl rfl d<|dn 0 rfl rfl d<|dn 0 rfl rfl d<|qx 0 rfl rfl d<|qx 0 rfl rfl d<|qy rfl<|dn 0 rfl rfl d<|dn 0 rfl rfl d<|qx 0 rfl rfl d<|qx 0 rfl rfl d<|qx 0 rfl rfl d<|qx 0 rfl rfl d ?_
     refine qx 0 rfl rfl d<|dn 0 rfl rfl d<|dn 0 rfl rfl d<|qx 0 rfl rfl d<|qx 0 rfl rfl d<|qx 0 rfl rfl d<|dn 0 rfl rfl d<|dn 0 rfl rfl d<|Qh ?_
     have ds := Gr.trans K av
     exact ⟨rfl, false, Qf, hm, (Qz.gr ds)⟩
   replace hm := Xx c6 hm
   refine dn 0 rfl rfl d<|dn 0 rfl rfl d<|qh 0 rfl rfl d (fun w hS => Jr (a := x3.2) (b := x4.2) rfl rfl)<|dn 0 rfl rfl d<|Nh 0 rfl rfl d (fun w hS => Qm rfl) (fun c7 => ?_) (fun c7 => ?_)
   · replace hm := iF c7 hm
     refine qx 0 rfl rfl d<|qx 0 rfl rfl d<|qx 0 rfl rfl d<|qx 0 rfl rfl d<|qx 0 rfl rfl d<|qx 0 rfl rfl d<|qy rfl<|qy rfl<|qx 0 rfl rfl d<|dn 0 rfl rfl d<|dn 0 rfl rfl d<|qx 0 rfl rfl d<|qx 0 rfl rfl d<|qy rfl<|dn 0 rfl rfl d<|dn 0 rfl rfl d<|qx 0 rfl rfl d<|qx 0 rfl rfl d<|qx 0 rfl rfl d<|qx 0 rfl rfl d<|qx 0 rfl rfl d<|dn 0 rfl rfl d<|dn 0 rfl rfl d<|qx 0 rfl rfl d<|qx 0 rfl rfl d ?_
     refine qx 0 rfl rfl d<|dn 0 rfl rfl d<|dn 0 rfl rfl d<|Qh ?_
     have dt := Gr.trans K av
     exact ⟨rfl, false, Qf, hm, (Qz.gr dt)⟩
   replace hm := iT c7 hm
   have aV := (((cb.gr B).md z).gr K)
   refine qh 0 rfl rfl d (fun w hS => Qp Zw rfl (Bx.kp aV hS) rfl) ?_
   have aW := (((cc.gr B).md z).gr K)
   refine qh 0 rfl rfl d (fun w hS => Qp Yt rfl (Bx.kp aW hS) rfl) ?_
   have co := (((((a6.gr Y9).md C).gr B).md z).gr K)
   refine qh 0 rfl rfl d (fun w hS => Qp Zr rfl (Bx.kp co hS) rfl)<|qh 0 rfl rfl d (fun w hS => Qp Zw rfl (Bx.kp aV hS) rfl)<|qh 0 rfl rfl d (fun w hS => Qp Yt rfl (Bx.kp aW hS) rfl) ?_
   have cp := (((bb.gr B).md z).gr K)
   refine qh 0 rfl rfl d (fun w hS => Qp Zr rfl (Bx.kp cp hS) rfl) ?_
   have cq := Gr.trans K av
   have cr := (((((a8.gr Y9).md C (Xd H)).gr B).md z (Xd H)).gr cq)
   obtain ⟨du, ct, hm⟩ := Qc hm
   refine qz [] rfl (eC Qqc rfl (Qr2 ct (Qn.rd cr))) ⟨fun _ => Qj, trivial⟩ ?_
   rintro _ eZ ⟨rfl, aM⟩
   have d4 := aM.size
   refine kG aM ?_
   have bg := Gr.trans cq aM
   have cu := (((bd.gr B).md z (Xd ah)).gr bg)
   obtain ⟨dv, cv, hm⟩ := Qc hm
   refine qz [] rfl (eC Qqe rfl (Qu5 cv cu)) ⟨fun _ => Qj, trivial⟩ ?_
   rintro _ e0 ⟨rfl, aD⟩
   have d5 := aD.size
   refine kG aD ?_
   have dy := Gr.trans aM aD
   have y := (d.gr dy)
   refine qh 0 rfl rfl y (fun w hS => Jr (a := du) (b := dv) rfl rfl)<|dn 0 rfl rfl y<|Nh 0 rfl rfl y (fun w hS => Qm rfl) (fun c8 => ?_) (fun c8 => ?_)
   · replace hm := iF c8 hm
     refine qx 0 rfl rfl y<|qx 0 rfl rfl y<|qy rfl<|dn 0 rfl rfl y<|dn 0 rfl rfl y<|qx 0 rfl rfl y<|qx 0 rfl rfl y<|qx 0 rfl rfl y<|qx 0 rfl rfl y<|qx 0 rfl rfl y<|dn 0 rfl rfl y<|dn 0 rfl rfl y<|qx 0 rfl rfl y<|qx 0 rfl rfl y<|qx 0 rfl rfl y<|dn 0 rfl rfl y<|dn 0 rfl rfl y<|Qh ?_
     have dz := Gr.trans bg aD
     exact ⟨rfl, false, Qf, hm, (Qz.gr dz)⟩
   replace hm := iT c8 hm
   have cw := (((aR.gr B).md z).gr K)
   refine qh 0 rfl rfl y (fun w hS => Qp Zr rfl (Bx.kp cw hS) rfl) ?_
   have cx := (ci.gr K)
   refine qh 0 rfl rfl y (fun w hS => Qp Zr rfl (Bx.kp cx hS) rfl) ?_
   have aE := Gr.trans bg aD
   have cy := ((((ba.md C (Xd T)).gr B).md z (Xd T)).gr aE)
   have cz := ((bf.md z (Xd aS)).gr aE)
   obtain ⟨e1, cA, hm⟩ := Qc hm
   refine qz [] rfl (eC Qln rfl (Qnw cA (Qn.rd cy) (Qn.rd cz))) ⟨fun _ => Qj, trivial⟩ ?_
   rintro _ e2 ⟨rfl, aw⟩
   have d6 := aw.size
   refine kG aw ?_
   have h := (y.gr aw)
   refine dn 0 rfl rfl h<|Nh 0 rfl rfl h (fun w hS => Qm rfl) (fun c9 => ?_) (fun c9 => ?_)
   · replace hm := Xw c9 hm
     refine qx 0 rfl rfl h<|qx 0 rfl rfl h<|qx 0 rfl rfl h<|qx 0 rfl rfl h<|qx 0 rfl rfl h<|dn 0 rfl rfl h<|dn 0 rfl rfl h<|qx 0 rfl rfl h<|qx 0 rfl rfl h<|qx 0 rfl rfl h<|dn 0 rfl rfl h<|dn 0 rfl rfl h<|Qh ?_
     exact ⟨rfl, false, Qf, hm, ((Qz.gr aE).gr aw)⟩
   replace hm := Xx c9 hm
   refine dn 0 rfl rfl h ?_
   have cB := (((((O.gr aB).md C (Xd am)).gr B).md z (Xd am)).gr K)
   refine qh 0 rfl rfl h (fun w hS => Qk7 (l := x5.2.1) Tryz.underlying32 Tryz.underlying5 Tryz.underlying9 rfl (Qn.rd (Qn.kp cB hS)))<|dn 0 rfl rfl h ?_
   have cC := (((P.gr aC).md z (Xd aT)).gr K)
   refine qh 0 rfl rfl h (fun w hS => Qk7 (l := x6.2.1) Tryz.underlying32 Tryz.underlying5 Tryz.underlying9 rfl (Qn.rd (Qn.kp cC hS)))<|qh 0 rfl rfl h (fun w hS => Qvf (l := x5.2.1) (m := x6.2.1) rfl rfl)<|dn 0 rfl rfl h<|Nh 0 rfl rfl h (fun w hS => Qm rfl) (fun bh => ?_) (fun bh => ?_)
   · replace hm := iF bh hm
     refine qx 0 rfl rfl h<|qx 0 rfl rfl h<|qx 0 rfl rfl h<|dn 0 rfl rfl h<|dn 0 rfl rfl h<|Qh ?_
     exact ⟨rfl, false, Qf, hm, ((Qz.gr aE).gr aw)⟩
   replace hm := iT bh hm
   refine dn 0 rfl rfl h<|dn 0 rfl rfl h<|qh 0 rfl rfl h (fun w hS => Jr (a := x5.2.2) (b := x6.2.2) rfl rfl)<|dn 0 rfl rfl h<|dn 0 rfl rfl h<|Qh ?_
   exact ⟨rfl, (decide (x5.2.2 = x6.2.2)), Qf, hm, ((Qz.gr aE).gr aw)⟩
 clear hm; rintro a7 aF ⟨hm, E⟩
 have e3 := E.size
 unfold Se at hm
 refine qs 4 rfl<|qv rfl (Qb Gc rfl) ?_
 have cD := (((cd.gr B).md z).kz E)
 refine qv rfl (Qd (v := vp4_39) Hj rfl cD rfl) ?_
 have cE := (((cg.gr B).md z (Xd ak)).kz E)
 refine qv rfl (Qk7 (l := p4.Data) Tryz.underlying32 Tryz.underlying5 Tryz.underlying9 rfl cE)<|qm rfl<|Qa<|Qe<|qs 5 rfl<|qv rfl (Qb Pp rfl)<|qv rfl (Qb Ho rfl) ?_
 have cF := (((aR.gr B).md z).kz E)
 refine qv rfl (Qd (v := ac) Hk rfl cF rfl) ?_
 have cG := ((((ba.md C (Xd T)).gr B).md z (Xd T)).kz E)
 refine qv rfl (Zo (l := x5.1.Secret.Labels) (c := Xn.cs) Tryz.underlying48 rfl (Qn.rd cG))<|qm rfl<|Qa<|Xi ?_
 have dA := (dq.kz E)
 have dB := (((bd.gr B).md z (Xd ah)).kz E)
 have dC := (((ce.gr B).md z (Xd an)).kz E)
 have dD := (((cf.gr B).md z (Xd ao)).kz E)
 have dE := (((((a8.gr Y9).md C (Xd H)).gr B).md z (Xd H)).kz E)
 have dF := ((((((((a2.md J (Xd I)).gr Y7).md D (Xd I)).gr Y9).md C (Xd I)).gr B).md z (Xd I)).kz E)
 have dG := ((((((a5.md D (Xd Q)).gr Y9).md C (Xd Q)).gr B).md z (Xd Q)).kz E)
 have dH := (((((O.gr aB).md C (Xd am)).gr B).md z (Xd am)).kz E)
 have dI := ((bf.md z (Xd aS)).kz E)
 have dJ := (((P.gr aC).md z (Xd aT)).kz E)
 refine Zq (α := Nat × Int × List Xn × Value × Nat × Nat) ([26] ++ rg 121 10) (fun ⟨n2, U, ap, vy13, zy13, gy13⟩ => [(121, .int .i64 U)]) (fun ⟨n2, U, ap, vy13, zy13, gy13⟩ wr => (Qr (Qbc p3 p4 x2 x5 a7) n2 (U, ap) = some r) ∧ Qn wr zy13 gy13 72 18 vy13 (ap.map Xn.cs) ∧ Zm (zy13 = 0 ∨ (gy13 = g ∧ f ≠ 0) ∨ aF.heap.size ≤ gy13) ∧ Bx wr N 57 (Qw.cs (Qw.mk (Qq.mk x5.1.Secret.Receiver ap x5.1.Secret.Share) x5.1.Ahead x5.1.Slots) vy13) ∧ Kz [(1, N), (f, g)] aF wr) (fun ⟨n2, U, ap, vy13, zy13, gy13⟩ => n2) ⟨Xb, 0, x5.1.Secret.Labels, ac, f, g⟩ ?_ ?_ ?_
 · exact Qf
 · exact ⟨hm, cG, ⟨Qj⟩, cF, Kz.refl _ _⟩
 clear hm; rintro ⟨n2, U, ap, vy13, zy13, gy13⟩ aG ⟨hm, S, ai, aj, G⟩
 have e4 := G.size
 have d7 := S.lth
 have d8 := aj.lt
 have hb := Zx hm; clear hm; obtain ⟨n2, rfl, hm⟩ := hb
 generalize bi : Qr (Qbc p3 p4 x2 x5 a7) n2 = d9 at hm
 unfold Qbc at hm
 try dsimp only at hm
 refine qs 1 rfl<|qv rfl (Zc (a := U) (b := (x5.1.Secret.Labels.length : Int)) rfl rfl)<|Qa<|Qe<|Xj rfl (fun c2 => ?_) (fun c2 => ?_)
 · replace hm := iT c2 hm
   refine qu<|Qe<|Xi<|qs 2 rfl<|qm rfl<|qm rfl<|Qa<|qg 7 rfl<|qv rfl (Qb Pp rfl)<|qv rfl (Qb Ho rfl)<|qv rfl (Qd (v := vy13) Hk rfl aj rfl)<|qm rfl ?_
   obtain ⟨aN, aH, hm⟩ := Qc hm
   refine qv rfl (Jm (i := U) Tryz.underlying48 (Hs).siz rfl (Qn.rd S) rfl aH)<|qv rfl (Qb Qer rfl) ?_
   have ea := Qn.z1 S aH
   refine qe rfl (Qia (i := U) (q := 0) (a' := (Xn.mk (-7) aN.Minus aN.Key)) (vs := [.int .i64 (-7)]) (c := Xn.cs) (Qv).siz rfl rfl rfl rfl rfl S aH (by first | rfl | omega) rfl rfl ⟨rfl, rfl⟩) ?_
   rintro _ dK ⟨cH, bj⟩
   have eb := bj.size
   refine Qh<|Xy<|Xl<|qg 2 rfl<|qv rfl (Zg (k := .i64) (a := U) (b := 1) rfl rfl)<|qm rfl<|Qh ?_
   have K_101 : Kz [(1, N), (f, g)] aF dK := (G.md bj (Qk (Xc (A := (fun x => (x = g ∧ f ≠ 0) ∨ aF.heap.size ≤ x)) ai Qj)))
   have cI := (aj.md bj (Qk (Xp (b := N) ai (Xd T))))
   subst bi
   exact ⟨rfl, ⟨n2, Qi (U + 1), ap.set U.toNat (Xn.mk (-7) aN.Minus aN.Key), vy13, zy13, gy13⟩, Qf, ⟨hm, cH, ⟨(Xc (A := (fun x => (x = g ∧ f ≠ 0) ∨ aF.heap.size ≤ x)) ai Qj)⟩, cI, K_101⟩, Nat.lt_succ_self _⟩
 replace hm := iF c2 hm
 refine Zl<|Xk<|Xk<|Zk<|Xl<|Qe<|qs 3 rfl<|qm rfl ?_
 have aX := (dH.kz G (Ke ((Qk a9.o) : n = 0 ∨ f = 0 ∨ s ≠ g) (Xd (b := N) am)))
 refine qv rfl (Zo (l := x5.2.1) (c := Xq) Tryz.underlying32 rfl (Qn.rd aX))<|qm rfl<|Qa<|Xi ?_
 have aI := (dA.kz G (Qk (Jf (A := (fun x => w.heap.size ≤ x)) j)))
 have cJ := (dB.kz G (Ke ((Jl (Jf (A := (fun x => zp3_1 = 0 ∨ x ≠ gp3_1)) j (fun x hx => (Qk ah.o)))) : zp3_1 = 0 ∨ f = 0 ∨ gp3_1 ≠ g) (Xd (b := N) ah)))
 have ec := (dC.kz G (Ke ((Jl (Jf (A := (fun x => zp4_2 = 0 ∨ x ≠ gp4_2)) j (fun x hx => (Qk an.o)))) : zp4_2 = 0 ∨ f = 0 ∨ gp4_2 ≠ g) (Xd (b := N) an)))
 have ed := (dD.kz G (Ke ((Jl (Jf (A := (fun x => zp4_4 = 0 ∨ x ≠ gp4_4)) j (fun x hx => (Qk ao.o)))) : zp4_4 = 0 ∨ f = 0 ∨ gp4_4 ≠ g) (Xd (b := N) ao)))
 have cK := (cE.kz G (Ke ((Jl (Jf (A := (fun x => zp4_39 = 0 ∨ x ≠ gp4_39)) j (fun x hx => (Qk ak.o)))) : zp4_39 = 0 ∨ f = 0 ∨ gp4_39 ≠ g) (Xd (b := N) ak)))
 have cL := (dE.kz G (Ke ((Jl (Jf (A := (fun x => L = 0 ∨ x ≠ M)) j (fun x hx => (Qk H.o)))) : L = 0 ∨ f = 0 ∨ M ≠ g) (Xd (b := N) H)))
 have ee := (dF.kz G (Ke ((Jl (Jf (A := (fun x => W = 0 ∨ x ≠ X)) j (fun x hx => (Qk I.o)))) : W = 0 ∨ f = 0 ∨ X ≠ g) (Xd (b := N) I)))
 have ef := (dG.kz G (Ke ((Jl (Jf (A := (fun x => Z = 0 ∨ x ≠ aa)) j (fun x hx => (Qk Q.o)))) : Z = 0 ∨ f = 0 ∨ aa ≠ g) (Xd (b := N) Q)))
 have eg := (dI.kz G (Ke (Jf (A := (fun x => f = 0 ∨ x ≠ g)) af (fun x hx => (Qk T.o))) (Jv (b := N) af)))
 have eh := (dJ.kz G (Ke (Jf (A := (fun x => f = 0 ∨ x ≠ g)) ag (fun x hx => (Qk T.o))) (Jv (b := N) ag)))
 refine Zq (α := Nat × List (BitVec 8) × Int × Value × Nat × Nat) ([19, 27] ++ rg 133 10) (fun ⟨n3, ax, R, vy19, zy19, gy19⟩ => [(19, vy19), (133, .int .i64 R)]) (fun ⟨n3, ax, R, vy19, zy19, gy19⟩ wr => (Qr (Qbd p3 p4 x2 x5 a7) n3 (ax, R) = some r) ∧ Qn wr zy19 gy19 5 1 vy19 (ax.map Xq) ∧ Zm (zy19 = 0 ∨ (gy19 = s ∧ n ≠ 0) ∨ aG.heap.size ≤ gy19) ∧ Kz [(n, s)] aG wr) (fun ⟨n3, ax, R, vy19, zy19, gy19⟩ => n3) ⟨Xb, x5.2.1, 0, au, n, s⟩ ?_ ?_ ?_
 · exact Qf
 · exact ⟨hm, aX, ⟨Qj⟩, Kz.refl _ _⟩
 clear hm; rintro ⟨n3, ax, R, vy19, zy19, gy19⟩ e5 ⟨hm, F, ar, V⟩
 have ei := V.size
 have dL := F.lth
 have hb := Zx hm; clear hm; obtain ⟨n3, rfl, hm⟩ := hb
 generalize bk : Qr (Qbd p3 p4 x2 x5 a7) n3 = ej at hm
 unfold Qbd at hm
 try dsimp only at hm
 refine qs 1 rfl<|qv rfl (Zc (a := R) (b := (x5.2.1.length : Int)) rfl rfl)<|Qa<|Qe<|Xj rfl (fun c3 => ?_) (fun c3 => ?_)
 · replace hm := iT c3 hm
   refine qu<|Qe<|Xi<|qs 2 rfl<|qm rfl<|qm rfl<|Qa<|qg 7 rfl<|qm rfl<|qm rfl ?_
   obtain ⟨aJ, aY, hm⟩ := Qc hm
   refine qv rfl (Jm (i := R) Tryz.underlying32 (Xs).siz rfl (Qn.rd F) rfl aY)<|qv rfl (Vq (q := 0) (u := bv aJ) Xs rfl (Qn.rd F) aY (by first | rfl | omega) rfl)<|qv rfl (Xhw (p := aJ) (q := 1#8) rfl rfl) ?_
   obtain ⟨e6, aK, hm⟩ := Qc hm
   refine qv rfl (Jm (i := R) Tryz.underlying32 (Xs).siz rfl (Qn.rd F) rfl aK) ?_
   have dM := Qn.z1 F aK
   refine qe rfl (Qia (i := R) (q := 0) (a' := aJ + 1#8) (vs := [bv (aJ + 1#8)]) (c := Xq) (Xs).siz rfl rfl rfl rfl rfl F aK (by first | rfl | omega) rfl rfl ⟨rfl, rfl⟩) ?_
   rintro _ dN ⟨cM, cN⟩
   have ek := cN.size
   refine Qh<|Xy<|Xl<|qg 2 rfl<|qv rfl (Zg (k := .i64) (a := R) (b := 1) rfl rfl)<|qm rfl<|Qh ?_
   have K_118 : Kz [(n, s)] aG dN := (V.md cN (Qk (Xc (A := (fun x => (x = s ∧ n ≠ 0) ∨ aG.heap.size ≤ x)) ar Qj)))
   subst bk
   exact ⟨rfl, ⟨n3, ax.set R.toNat (aJ + 1#8), Qi (R + 1), vy19, zy19, gy19⟩, Qf, ⟨hm, cM, ⟨(Xc (A := (fun x => (x = s ∧ n ≠ 0) ∨ aG.heap.size ≤ x)) ar Qj)⟩, K_118⟩, Nat.lt_succ_self _⟩
 replace hm := iF c3 hm
 refine Zl<|Xk<|Xk<|Zk<|Xl<|qs 14 rfl<|qm rfl<|Jh rfl (Qm rfl) (fun c4 => ?_) (fun c4 => ?_)
 · replace hm := Xw c4 hm
   refine qk rfl<|qk rfl<|qk rfl<|qm rfl<|qm rfl<|qk rfl<|qk rfl<|qk rfl<|qk rfl<|qk rfl<|qm rfl<|qm rfl<|Qa<|Qo ?_
   have cO := (aI.kz V (Qk (Jf (A := (fun x => w.heap.size ≤ x)) t)))
   cases hm
   refine ⟨_, _, rfl, Qt rfl (Qg rfl), ?_⟩
   exact ⟨rfl, cO⟩
 replace hm := Xx c4 hm
 have cP := (((((((a6.gr Y9).md C).gr B).md z).kz E).kz G (Qk (Jv (b := b8) j))).kz V (Qk (Jv (b := b8) t)))
 refine qv rfl (Qp Zr rfl cP rfl) ?_
 have cQ := (((((bb.gr B).md z).kz E).kz G (Qk (Jv (b := b4) j))).kz V (Qk (Jv (b := b4) t)))
 refine qv rfl (Qp Zr rfl cQ rfl) ?_
 have cR := (cL.kz V (Qk ((Jl (Jf (A := (fun x => L = 0 ∨ x ≠ M)) t (fun x hx => (Qk H.o)))) : L = 0 ∨ n = 0 ∨ M ≠ s)))
 have cS := (cJ.kz V (Qk ((Jl (Jf (A := (fun x => zp3_1 = 0 ∨ x ≠ gp3_1)) t (fun x hx => (Qk ah.o)))) : zp3_1 = 0 ∨ n = 0 ∨ gp3_1 ≠ s)))
 obtain ⟨e7, cT, hm⟩ := Qc hm
 refine qe rfl (eC Qln rfl (Qnw cT (Qn.rd cR) cS)) ?_
 rintro _ e8 ⟨rfl, aL⟩
 have el := aL.size
 refine qm rfl<|Jh rfl (Qm rfl) (fun c5 => ?_) (fun c5 => ?_)
 · replace hm := Xw c5 hm
   refine qk rfl<|qk rfl<|qk rfl<|qk rfl<|qk rfl<|qm rfl<|qm rfl<|Qa<|Qo ?_
   have cU := ((aI.kz V (Qk (Jf (A := (fun x => w.heap.size ≤ x)) t))).trans aL)
   cases hm
   refine ⟨_, _, rfl, Qt rfl (Qg rfl), ?_⟩
   exact ⟨rfl, cU⟩
 replace hm := Xx c5 hm
 refine qv rfl (Qb Gc rfl) ?_
 have cV := (((cD.kz G (Qk (Jv (b := b5) j))).kz V (Qk (Jv (b := b5) t))).gr aL)
 refine qv rfl (Qd (v := vp4_39) Hj rfl cV rfl) ?_
 have cW := ((cK.kz V (Qk ((Jl (Jf (A := (fun x => zp4_39 = 0 ∨ x ≠ gp4_39)) t (fun x hx => (Qk ak.o)))) : zp4_39 = 0 ∨ n = 0 ∨ gp4_39 ≠ s))).gr aL)
 refine qv rfl (Qk7 (l := p4.Data) Tryz.underlying32 Tryz.underlying5 Tryz.underlying9 rfl cW)<|qm rfl<|qv rfl (Qvf (l := p4.Data) (m := p4.Data) rfl rfl)<|qm rfl<|qm rfl<|Qa<|Qo ?_
 have cX := ((aI.kz V (Qk (Jf (A := (fun x => w.heap.size ≤ x)) t))).trans aL)
 cases hm
 refine ⟨_, _, rfl, Qt rfl (Qg rfl), ?_⟩
 exact ⟨rfl, cX⟩
end Go.Proofs.YtgdojjniakpadaaGreat.Mx
