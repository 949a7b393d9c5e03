/- Walks that follow mirrors: Xc. Printed by mx.py. -/
import Derived.Test.YtjdffpglgkefmaaGreatXb
import Derived.Test.YtjdffpglgkefmaaGreatZd
set_option linter.unusedVariables false
set_option linter.unusedSimpArgs false
set_option maxRecDepth 100000
set_option maxHeartbeats 2000000
namespace Go.Proofs.YtjdffpglgkefmaaGreat.Mx
open Go Go.RowKit Go.Sx
theorem Xaq : ZV Tryz.prog 161 (.slice none 0 0) := fun _ => by kernel_rfl
theorem Xal : ZV Tryz.prog 163 (.int .u64 0) := fun _ => by kernel_rfl
theorem Xql : ZV Tryz.prog 167 (.nilFunc) := fun _ => by kernel_rfl
theorem Qy4 : One Tryz.prog 167 := fun _ => ⟨by kernel_rfl, by kernel_rfl⟩
theorem Xlb : En Tryz.prog 104 := fun _ _ => by kernel_rfl
theorem Xfr : En Tryz.prog 102 := fun _ _ => by kernel_rfl
theorem Qoy {p0 p1 p2 p3 p4 bp1 bp2 vp2_0 zp2_0 gp2_0 op2_0 vp2_2 zp2_2 gp2_2 op2_2 bp3 vp3_0 zp3_0 gp3_0 op3_0 bp4 r} (hm : Qjc p0 p1 p2 p3 p4 = some r) {w : World} (hbp1 : Bx w bp1 28 (Qa7.cs p1)) (hbp2 : Bx w bp2 48 (Qaa.cs p2 vp2_0 vp2_2)) (b : Rd w zp2_0 gp2_0 op2_0 18 vp2_0 (p2.Items.map Qcc.cs)) (c : Rd w zp2_2 gp2_2 op2_2 2 vp2_2 (p2.Points.map Qah.cs)) (hbp3 : Bx w bp3 161 ([vp3_0])) (a : Rd w zp3_0 gp3_0 op3_0 1 vp3_0 (p3.map uwc)) (hbp4 : Bx w bp4 163 ([wv p4])) :
    Calls Tryz.prog 102 [wv p0, .pointer (some ⟨bp1, 0, none⟩), .pointer (some ⟨bp2, 0, none⟩), .pointer (some ⟨bp3, 0, none⟩), .pointer (some ⟨bp4, 0, none⟩)].toArray w fun e w' => ∃ v, e = .returned v ∧ (v = wv r ∧ Gr w w') := by
 unfold Qjc at hm
 refine Qa5 15 Tryz.func102 rfl rfl rfl<|qs 1 rfl<|qm rfl<|Qa1<|Qa3<|dw [([])] [] (.leaf [(0,10),(1,10),(2,10),(3,10),(4,10),(5,10),(6,0),(7,0),(8,10)]) ?_
 intro w1 G1 l
 refine Qal ?_
 have B8 := (hbp1.gr G1)
 refine dh 0 rfl rfl (fun w hS => Qa4 Qcn rfl (Bx.kp B8 hS) rfl)<|dh 0 rfl rfl (fun w hS => Qa0 Qou rfl) ?_
 have B9 := (hbp2.gr G1)
 refine dh 0 rfl rfl (fun w hS => Qa2 (v := wv p2.Base) Qb5 rfl (Bx.kp B9 hS) rfl) ?_
 have d := (hbp3.gr G1)
 refine dh 0 rfl rfl (fun w hS => Qa2 (v := vp3_0) Qow rfl (Bx.kp d hS) rfl) ?_
 have f := (hbp4.gr G1)
 refine dh 0 rfl rfl (fun w hS => Qa2 (v := wv p4) Qp3 rfl (Bx.kp f hS) rfl)<|dm 0 rfl rfl ?_
 have g := (a.gr G1)
 obtain ⟨x1, h, hm⟩ := bnd hm
 refine qz [] rfl (eC Xlv rfl (Qlo h g)) ⟨fun _ => tk0, trivial⟩ ?_
 rintro _ w2 ⟨rfl, G2⟩
 refine kG G2 ?_
 obtain ⟨x2, i, hm⟩ := bnd hm
 refine qz [] rfl (eC Qzp rfl (Ql9 i)) ⟨fun _ => tk0, trivial⟩ ?_
 rintro _ w3 ⟨rfl, G3⟩
 refine kG G3 ?_
 have j := (((Kp.refl ([]) w1).gr G2).gr G3)
 refine dn 0 rfl rfl j<|Qa1<|Qag ?_
 have k := ((((Gr.refl w).trans G1).trans G2).trans G3)
 cases hm
 refine ⟨_, _, rfl, Qb1 rfl (Qab rfl), ?_⟩
 exact ⟨rfl, k⟩
theorem Xbf {p0 p1 p2 p3 p4 vp2 zp2 gp2 op2 r} (hm : Qfy p0 p1 p2 p3 p4 = some r) {w : World} (cJ : Rd w zp2 gp2 op2 1 vp2 (p2.map ic)) :
    Calls Tryz.prog 49 [kv p0, .agg (Qa7.cs p1).toArray, vp2, kv p3, wv p4].toArray w fun e w' => ∃ v, e = .returned v ∧ (∃ ur0_0 zr0_0 gr0_0 ur0_2 zr0_2 gr0_2, v = .tuple [.agg (Qaa.cs r.1 ur0_0 ur0_2).toArray, .int .i64 r.2].toArray ∧ Own w' zr0_0 gr0_0 133 18 ur0_0 (r.1.Items.map Qcc.cs) ∧ Hdn (zr0_0 = 0 ∨ w.heap.size ≤ gr0_0) ∧ Own w' zr0_2 gr0_2 31 2 ur0_2 (r.1.Points.map Qah.cs) ∧ Hdn (zr0_2 = 0 ∨ w.heap.size ≤ gr0_2) ∧ Hdn (zr0_2 = 0 ∨ zr0_0 = 0 ∨ gr0_2 ≠ gr0_0) ∧ Gr w w') := by
 have b7 := cJ.lth
 unfold Qfy at hm
 refine Qa5 123 Tryz.func49 rfl rfl rfl<|qs 5 rfl<|qe rfl (Qaq (cs := kb p0) rfl rfl) ?_
 rintro _ w1 ⟨b1, rfl, gp, b8, G1⟩
 have gW := b8.lt
 refine qe rfl (Qaq (cs := Qa7.cs p1) rfl rfl) ?_
 rintro _ w2 ⟨b2, rfl, gq, cK, G2⟩
 have gX := cK.lt
 refine qe rfl (Qaq (cs := kb p3) rfl rfl) ?_
 rintro _ w3 ⟨b3, rfl, gs, b9, G3⟩
 have gY := b9.lt
 refine qe rfl (Qa8 (cs := Qaa.cs (Qaa.mk [] 0#64 [] k0 k0) (.slice none 0 0) (.slice none 0 0)) Quy rfl) ?_
 rintro _ w4 ⟨b4, rfl, gu, aT, G4⟩
 have gZ := aT.lt
 refine qm rfl<|Qa1<|Qa3<|qs 3 rfl ?_
 have Y1 := Gr.trans G3 G4
 have ca := (cK.gr Y1)
 refine qv rfl (Qa4 Qcn rfl ca rfl) ?_
 obtain ⟨x1, e9, hm⟩ := bnd hm
 refine qe rfl (eC Xkz rfl (Qnb e9)) ?_
 rintro _ w5 ⟨rfl, G5⟩
 have g0 := G5.size
 refine qv rfl (Qci rfl)<|Qa1<|Qam rfl (fun c1 => ?_) (fun c1 => ?_)
 · replace hm := Qc8 c1 hm
   refine qs 3 rfl<|qv rfl (Qas (cs := Qaa.cs (Qaa.mk [] 0#64 [] k0 k0) (.slice none 0 0) (.slice none 0 0)) Qr4 rfl (by kernel_rfl)) ?_
   have fa := (aT.gr G5)
   refine qe rfl (Qaj Qcs rfl rfl (Qaa.cs_ones _ _ _ rfl rfl) fa rfl rfl) ?_
   rintro _ w6 ⟨fb, M6⟩
   refine qm rfl<|qb ?_
   have Y2 := Gr.trans (Gr.trans (Gr.trans G1 G2) Y1) G5
   have fc := (((Gr.refl w).trans Y2).md M6)
   cases hm
   refine ⟨_, _, rfl, Qbk rfl (Qap Qcs rfl fb rfl) (Qab rfl), ?_⟩
   exact ⟨(.slice none 0 0), 0, 0, (.slice none 0 0), 0, 0, rfl, (Qax _ 0 133 18), ⟨.inl rfl⟩, (Qax _ 0 31 2), ⟨.inl rfl⟩, ⟨(.inl rfl)⟩, fc⟩
 replace hm := Qc7 c1 hm
 refine qu<|Qa3<|qs 3 rfl<|qm rfl ?_
 have Y3 := Gr.trans (Gr.trans (Gr.trans G1 G2) Y1) G5
 have cb := (cJ.gr Y3)
 refine qv rfl (Qbi (l := p2) (c := ic) Tryz.underlying44 rfl cb)<|qm rfl<|Qa1<|Qan ?_
 have cc := ((Gr.refl w).trans Y3)
 refine Qbj (α := Nat × Int) ([11, 12, 13] ++ rg 29 29) (fun ⟨n1, a3⟩ => [(11, .int .i64 0), (29, .int .i64 a3)]) (fun ⟨n1, a3⟩ wr => (Qc3 (Qgv p0 p1 p2 p3 p4) n1 a3 = some r) ∧ Kz [] w5 wr) (fun ⟨n1, a3⟩ => n1) ⟨Qcw, 0⟩ ?_ ?_ ?_
 · exact sbq
 · exact ⟨hm, Kz.refl _ _⟩
 clear hm; rintro ⟨n1, a3⟩ w7 ⟨hm, K7⟩
 have g1 := K7.size
 have hb := Qbv hm; clear hm; obtain ⟨n1, rfl, hm⟩ := hb
 generalize cd : Qc3 (Qgv p0 p1 p2 p3 p4) n1 = cL at hm
 unfold Qgv at hm
 try dsimp only at hm
 refine qs 1 rfl<|qv rfl (Qcd (a := a3) (b := (p2.length : Int)) rfl rfl)<|Qa1<|Qa3<|Qam rfl (fun c2 => ?_) (fun c2 => ?_)
 · replace hm := iT c2 hm
   refine qu<|Qa3<|Qan<|qs 5 rfl<|qm rfl ?_
   obtain ⟨y4, cM, hm⟩ := bnd hm
   have a2 := (cb.kz K7)
   refine qv rfl (Qf7 (i := a3) Tryz.underlying44 (Qaw).siz rfl a2 rfl cM)<|qv rfl (Qk9 (q := 0) (u := .int .i64 y4) Qaw rfl a2 cM (by first | rfl | omega) rfl)<|qm rfl<|qm rfl<|Qa1 ?_
   have fd := (cc.kz K7)
   refine qj (β := Bool) (rg 34 22) (fun a5 => [(55, .bool a5)]) (fun a5 wr => (Qi8 a3 cL a5 = some r) ∧ Kz [] w7 wr) ?_ ?_
   · refine qg 22 rfl<|qm rfl<|qv rfl (Qcd (a := y4) (b := 0) rfl rfl)<|qp rfl (Qac rfl) (fun c4 => ?_) (fun c4 => ?_)
     · replace hm := iT c4 hm
       refine qk rfl<|qk rfl<|qk rfl<|qk rfl<|qk rfl<|qm rfl<|qm rfl ?_
       refine qk rfl<|qk rfl<|qk rfl<|qk rfl<|qk rfl<|qk rfl<|qk rfl ?_
       refine qk rfl<|qk rfl<|qk rfl<|qk rfl<|qm rfl<|Qa9 ?_
       exact ⟨rfl, true, sbq, hm, kz0⟩
     replace hm := iF c4 hm
     refine qm rfl<|qv rfl (Qa0 Qmr rfl) ?_
     have ff := ((ca.gr G5).kz K7)
     refine qv rfl (Qa2 (v := .int .i64 p1.Depth) Qaw rfl ff rfl) ?_
     obtain ⟨n6, hn6, hm⟩ := bnd hm
     refine qv rfl (Qu1 (a := 1) (b := p1.Depth) rfl rfl hn6)<|qv rfl (Qee (a := y4) (b := Qxk 1 n6) rfl rfl)<|qm rfl<|qp rfl (Qac rfl) (fun c5 => ?_) (fun c5 => ?_)
     · replace hm := iT c5 hm
       refine qk rfl<|qk rfl<|qk rfl<|qk rfl<|qk rfl<|qk rfl<|qk rfl ?_
       refine qk rfl<|qk rfl<|qk rfl<|qk rfl<|qm rfl<|Qa9 ?_
       exact ⟨rfl, true, sbq, hm, kz0⟩
     replace hm := iF c5 hm
     refine qm rfl<|qv rfl (Qey (a := a3) (b := 0) rfl rfl)<|qpF rfl (Qac rfl) (fun c6 => ?_) (fun c6 => ?_)
     · replace hm := iF c6 hm
       refine qk rfl<|qk rfl<|qk rfl<|qk rfl<|qk rfl<|qk rfl<|qk rfl ?_
       refine qm rfl<|qm rfl<|Qa9 ?_
       exact ⟨rfl, false, sbq, hm, kz0⟩
     replace hm := iT c6 hm
     refine qm rfl<|qm rfl<|qm rfl<|qv rfl (Qi7 (k := .i64) (a := a3) (b := 1) rfl rfl) ?_
     obtain ⟨y7, cN, hm⟩ := bnd hm
     refine qv rfl (Qf7 (i := w64 (a3 - 1)) Tryz.underlying44 (Qaw).siz rfl a2 rfl cN)<|qv rfl (Qk9 (q := 0) (u := .int .i64 y7) Qaw rfl a2 cN (by first | rfl | omega) rfl)<|qv rfl (Qo8 (a := y4) (b := y7) rfl rfl)<|qm rfl<|qm rfl<|Qa9 ?_
     exact ⟨rfl, (decide (y4 ≤ y7)), sbq, hm, kz0⟩
   clear hm; rintro a5 w8 ⟨hm, K8⟩
   unfold Qi8 at hm
   refine cnF rfl (fun c3 => ?_) (fun c3 => ?_)
   · replace hm := Qc7 c3 hm
     refine Qc4<|Qay<|Qaz<|qg 2 rfl<|qv rfl (Qce (k := .i64) (a := a3) (b := 1) rfl rfl)<|qm rfl<|Qa9 ?_
     have K_24 : Kz [] w5 w8 := (K7.kz K8)
     subst cd
     exact ⟨rfl, ⟨n1, w64 (a3 + 1)⟩, sbq, ⟨hm, K_24⟩, Nat.lt_succ_self _⟩
   replace hm := Qc8 c3 hm
   refine qs 3 rfl<|qv rfl (Qas (cs := Qaa.cs (Qaa.mk [] 0#64 [] k0 k0) (.slice none 0 0) (.slice none 0 0)) Qr4 rfl (by kernel_rfl)) ?_
   have fg := (((aT.gr G5).kz K7).kz K8)
   refine qe rfl (Qaj Qcs rfl rfl (Qaa.cs_ones _ _ _ rfl rfl) fg rfl rfl) ?_
   rintro _ w9 ⟨fh, M9⟩
   refine qm rfl<|Qa1<|Qag<|Qbo<|Qb2<|Qb2<|Qbo ?_
   refine Qb2 ?_
   have fj := ((fd.kz K8).md M9)
   cases hm
   refine ⟨_, _, rfl, Qbk rfl (Qap Qcs rfl fh rfl) (Qab rfl), ?_⟩
   exact ⟨(.slice none 0 0), 0, 0, (.slice none 0 0), 0, 0, rfl, (Qax _ 0 133 18), ⟨.inl rfl⟩, (Qax _ 0 31 2), ⟨.inl rfl⟩, ⟨(.inl rfl)⟩, fj⟩
 replace hm := iF c2 hm
 refine Qbp<|Qb4<|Qb4<|Qbq<|Qaz<|Qa3<|Qa3 ?_
 refine qg 5 rfl<|qm rfl ?_
 have cO := (cb.kz K7)
 refine qv rfl (Qbi (l := p2) (c := ic) Tryz.underlying44 rfl cO)<|qv rfl (Qa0 Qs0 rfl) ?_
 have ce := ((ca.gr G5).kz K7)
 refine qv rfl (Qa2 (v := .int .i64 p1.Degree) Qaw rfl ce rfl)<|qv rfl (Qey (a := (p2.length : Int)) (b := p1.Degree) rfl rfl)<|Qa1<|Qam rfl (fun c7 => ?_) (fun c7 => ?_)
 · replace hm := iT c7 hm
   refine qs 3 rfl<|qv rfl (Qas (cs := Qaa.cs (Qaa.mk [] 0#64 [] k0 k0) (.slice none 0 0) (.slice none 0 0)) Qr4 rfl (by kernel_rfl)) ?_
   have fk := ((aT.gr G5).kz K7)
   refine qe rfl (Qaj Qcs rfl rfl (Qaa.cs_ones _ _ _ rfl rfl) fk rfl rfl) ?_
   rintro _ g2 ⟨cP, fl⟩
   refine qm rfl<|qb ?_
   have fm := ((cc.kz K7).md fl)
   cases hm
   refine ⟨_, _, rfl, Qbk rfl (Qap Qcs rfl cP rfl) (Qab rfl), ?_⟩
   exact ⟨(.slice none 0 0), 0, 0, (.slice none 0 0), 0, 0, rfl, (Qax _ 0 133 18), ⟨.inl rfl⟩, (Qax _ 0 31 2), ⟨.inl rfl⟩, ⟨(.inl rfl)⟩, fm⟩
 replace hm := iF c7 hm
 refine qu ?_
 have fn := (cc.kz K7)
 refine qj (β := List (BitVec 64) × Nat × Value × Nat × Nat × Nat) ([14, 15] ++ rg 64 6) (fun ⟨a9, bq8, vy10, zy10, gy10, bq11⟩ => [(14, .pointer (some ⟨bq8, 0, none⟩)), (15, .pointer (some ⟨bq11, 0, none⟩))]) (fun ⟨a9, bq8, vy10, zy10, gy10, bq11⟩ wr => (Qjf p0 p1 p2 p3 p4 a9 = some r) ∧ Own wr zy10 gy10 24 1 vy10 (a9.map uwc) ∧ Hdn (zy10 = 0 ∨ w7.heap.size ≤ gy10) ∧ Bx wr bq8 161 ([vy10]) ∧ w7.heap.size ≤ bq8 ∧ Bx wr bq11 163 ([wv p1.Group.Q]) ∧ w7.heap.size ≤ bq11 ∧ Hdn (zy10 = 0 ∨ gy10 ≠ bq8) ∧ bq11 ≠ bq8 ∧ Hdn (zy10 = 0 ∨ gy10 ≠ bq11) ∧ Kz [] w7 wr) ?_ ?_
 · refine dw [([])] [] (.fork [(0,10),(1,10),(3,10),(4,10),(5,10)] (.fork [(2,0)] (.leaf [(6,0),(7,0),(8,0),(9,0)]) (.leaf [(7,0),(6,0),(8,0),(9,0)])) (.fork [] (.fork [(6,0)] (.leaf [(2,0),(7,0),(8,0),(9,0)]) (.leaf [(7,0),(2,0),(8,0),(9,0)])) (.fork [(7,0)] (.leaf [(2,0),(6,0),(8,0),(9,0)]) (.leaf [(6,0),(2,0),(8,0),(9,0)])))) ?_
   intro g3 al gv
   refine Qbc ?_
   have Y4 := Gr.trans (Gr.trans G2 Y1) G5
   have cQ := (((b8.gr Y4).kz K7).gr al)
   refine dh 0 rfl rfl (fun w hS => Qa4 Qak rfl (Bx.kp cQ hS) rfl) ?_
   have bF := (ce.gr al)
   refine dh 0 rfl rfl (fun w hS => Qa4 Qcn rfl (Bx.kp bF hS) rfl)<|dh 0 rfl rfl (fun w hS => Qa0 Qk5 rfl)<|dh 0 rfl rfl (fun w hS => Qa0 Qmo rfl)<|dh 0 rfl rfl (fun w hS => Qa2 (v := wv p1.Group.Q) Qb5 rfl (Bx.kp bF hS) rfl)<|Qbt ?_ (Qbc (Qbt ?_ ?_))
   · refine Qbc ?_
     obtain ⟨cR, cS, hm⟩ := bnd hm
     refine qz [] rfl (eC Xf8 rfl (Qif cS)) ⟨fun _ => tk0, trivial⟩ ?_
     rintro B g4 ⟨_, U, V, rfl, H, W, a4⟩
     have gw := a4.size
     have s := H.lth
     refine kG a4<|Qbt ?_ ?_
     · refine Qal<|qz [] rfl (Qa8 (cs := [(.slice none 0 0)]) Xaq rfl) ⟨fun _ => tk0, trivial⟩ ?_
       rintro _ g5 ⟨cf, rfl, fo, bG, cg⟩
       have fp := bG.lt
       refine kG cg<|qz [] rfl (Qa8 (cs := [wv 0#64]) Xal rfl) ⟨fun _ => tk0, trivial⟩ ?_
       rintro _ g6 ⟨ch, rfl, fq, cT, a6⟩
       refine kG a6 ?_
       have cU := (bG.gr a6)
       have bH := ((H.gr cg).gr a6)
       refine qz [(1, cf)] rfl (Qe9 (cs' := [B]) (Qow).siz rfl rfl (Own.oneB bH) cU rfl rfl) ⟨fun _ => tk0, trivial⟩ ?_
       rintro _ g7 ⟨cV, a7⟩
       refine kM a7 ?_
       have cW := (cT.md a7)
       refine qz [(1, ch)] rfl (Qe9 (cs' := [wv p1.Group.Q]) (Qp3).siz rfl rfl rfl cW rfl rfl) ⟨fun _ => tk0, trivial⟩ ?_
       rintro _ fr ⟨cX, a8⟩
       refine kM a8<|Qa9 ?_
       have K_169 : Kz [] w7 fr := ((((((Kz.gr (Kz.refl _ _) al).gr a4).gr cg).gr a6).md a7).md a8)
       have cY := ((bH.md a7 (Qau s)).md a8 (Qau s))
       have cZ := (cV.md a8)
       exact ⟨rfl, ⟨cR, cf, B, U, V, ch⟩, sbq, hm, cY, ⟨(Qbs (A := (fun x => w7.heap.size ≤ x)) W)⟩, cZ, (by omega), cX, (by omega), ⟨(Qlf (A := (fun x => x ≠ cf)) s)⟩, (by omega), ⟨(Qlf (A := (fun x => x ≠ ch)) s)⟩, K_169⟩
     refine Qal<|qz [] rfl (Qa8 (cs := [wv 0#64]) Xal rfl) ⟨fun _ => tk0, trivial⟩ ?_
     rintro _ g8 ⟨ci, rfl, fs, bI, cj⟩
     have ft := bI.lt
     refine kG cj<|qz [] rfl (Qa8 (cs := [(.slice none 0 0)]) Xaq rfl) ⟨fun _ => tk0, trivial⟩ ?_
     rintro _ g9 ⟨ck, rfl, fu, c0, ba⟩
     refine kG ba ?_
     have bJ := ((H.gr cj).gr ba)
     refine qz [(1, ck)] rfl (Qe9 (cs' := [B]) (Qow).siz rfl rfl (Own.oneB bJ) c0 rfl rfl) ⟨fun _ => tk0, trivial⟩ ?_
     rintro _ ha ⟨da, bb⟩
     refine kM bb ?_
     have db := ((bI.gr ba).md bb)
     refine qz [(1, ci)] rfl (Qe9 (cs' := [wv p1.Group.Q]) (Qp3).siz rfl rfl rfl db rfl rfl) ⟨fun _ => tk0, trivial⟩ ?_
     rintro _ fv ⟨dc, bc⟩
     refine kM bc<|Qa9 ?_
     have K_180 : Kz [] w7 fv := ((((((Kz.gr (Kz.refl _ _) al).gr a4).gr cj).gr ba).md bb).md bc)
     have de := ((bJ.md bb (Qau s)).md bc (Qau s))
     have df := (da.md bc)
     exact ⟨rfl, ⟨cR, ck, B, U, V, ci⟩, sbq, hm, de, ⟨(Qbs (A := (fun x => w7.heap.size ≤ x)) W)⟩, df, (by omega), dc, (by omega), ⟨(Qlf (A := (fun x => x ≠ ck)) s)⟩, (by omega), ⟨(Qlf (A := (fun x => x ≠ ci)) s)⟩, K_180⟩
   · refine Qbc<|qz [] rfl (Qa8 (cs := [(.slice none 0 0)]) Xaq rfl) ⟨fun _ => tk0, trivial⟩ ?_
     rintro _ hc ⟨aB, rfl, fw, aU, cl⟩
     have fx := aU.lt
     refine kG cl<|Qbt ?_ ?_
     · refine Qal ?_
       obtain ⟨fy, dg, hm⟩ := bnd hm
       refine qz [] rfl (eC Xf8 rfl (Qif dg)) ⟨fun _ => tk0, trivial⟩ ?_
       rintro X hd ⟨_, aC, aD, rfl, Y, I, bd⟩
       have gx := bd.size
       have aV := Y.lth
       refine kG bd<|qz [] rfl (Qa8 (cs := [wv 0#64]) Xal rfl) ⟨fun _ => tk0, trivial⟩ ?_
       rintro _ he ⟨cm, rfl, fz, di, be⟩
       refine kG be ?_
       have dj := ((aU.gr bd).gr be)
       have bK := (Y.gr be)
       refine qz [(1, aB)] rfl (Qe9 (cs' := [X]) (Qow).siz rfl rfl (Own.oneB bK) dj rfl rfl) ⟨fun _ => tk0, trivial⟩ ?_
       rintro _ hf ⟨dk, bf⟩
       refine kM bf ?_
       have dl := (di.md bf)
       refine qz [(1, cm)] rfl (Qe9 (cs' := [wv p1.Group.Q]) (Qp3).siz rfl rfl rfl dl rfl rfl) ⟨fun _ => tk0, trivial⟩ ?_
       rintro _ fA ⟨dp, bg⟩
       refine kM bg<|Qa9 ?_
       have K_194 : Kz [] w7 fA := ((((((Kz.gr (Kz.refl _ _) al).gr cl).gr bd).gr be).md bf).md bg)
       have dq := ((bK.md bf (Qd7 I)).md bg (Qau aV))
       have dr := (dk.md bg)
       exact ⟨rfl, ⟨fy, aB, X, aC, aD, cm⟩, sbq, hm, dq, ⟨(Qbs (A := (fun x => w7.heap.size ≤ x)) I)⟩, dr, (by omega), dp, (by omega), ⟨(Qbs (A := (fun x => x ≠ aB)) I)⟩, (by omega), ⟨(Qlf (A := (fun x => x ≠ cm)) aV)⟩, K_194⟩
     refine Qal<|qz [] rfl (Qa8 (cs := [wv 0#64]) Xal rfl) ⟨fun _ => tk0, trivial⟩ ?_
     rintro _ hg ⟨cn, rfl, fB, bL, bh⟩
     have gy := bh.size
     have fC := bL.lt
     refine kG bh ?_
     obtain ⟨fD, ds, hm⟩ := bnd hm
     refine qz [] rfl (eC Xf8 rfl (Qif ds)) ⟨fun _ => tk0, trivial⟩ ?_
     rintro Z hh ⟨_, aE, aF, rfl, aa, j, bi⟩
     refine kG bi ?_
     have dt := ((aU.gr bh).gr bi)
     refine qz [(1, aB)] rfl (Qe9 (cs' := [Z]) (Qow).siz rfl rfl (Own.oneB aa) dt rfl rfl) ⟨fun _ => tk0, trivial⟩ ?_
     rintro _ hi ⟨du, bj⟩
     refine kM bj ?_
     have dv := ((bL.gr bi).md bj)
     refine qz [(1, cn)] rfl (Qe9 (cs' := [wv p1.Group.Q]) (Qp3).siz rfl rfl rfl dv rfl rfl) ⟨fun _ => tk0, trivial⟩ ?_
     rintro _ fE ⟨dy, bk⟩
     refine kM bk<|Qa9 ?_
     have K_205 : Kz [] w7 fE := ((((((Kz.gr (Kz.refl _ _) al).gr cl).gr bh).gr bi).md bj).md bk)
     have dz := ((aa.md bj (Qd7 j)).md bk (Qd7 j))
     have dA := (du.md bk)
     exact ⟨rfl, ⟨fD, aB, Z, aE, aF, cn⟩, sbq, hm, dz, ⟨(Qbs (A := (fun x => w7.heap.size ≤ x)) j)⟩, dA, (by omega), dy, (by omega), ⟨(Qbs (A := (fun x => x ≠ aB)) j)⟩, (by omega), ⟨(Qbs (A := (fun x => x ≠ cn)) j)⟩, K_205⟩
   refine Qbc<|qz [] rfl (Qa8 (cs := [wv 0#64]) Xal rfl) ⟨fun _ => tk0, trivial⟩ ?_
   rintro _ hj ⟨aG, rfl, fF, aW, co⟩
   have fG := aW.lt
   refine kG co<|Qbt ?_ ?_
   · refine Qal ?_
     obtain ⟨fH, dB, hm⟩ := bnd hm
     refine qz [] rfl (eC Xf8 rfl (Qif dB)) ⟨fun _ => tk0, trivial⟩ ?_
     rintro ab hk ⟨_, aH, aI, rfl, ac, J, bl⟩
     have gz := bl.size
     have aX := ac.lth
     refine kG bl<|qz [] rfl (Qa8 (cs := [(.slice none 0 0)]) Xaq rfl) ⟨fun _ => tk0, trivial⟩ ?_
     rintro _ hl ⟨cp, rfl, fI, dC, bm⟩
     refine kG bm ?_
     have bM := (ac.gr bm)
     refine qz [(1, cp)] rfl (Qe9 (cs' := [ab]) (Qow).siz rfl rfl (Own.oneB bM) dC rfl rfl) ⟨fun _ => tk0, trivial⟩ ?_
     rintro _ hn ⟨dD, bo⟩
     refine kM bo ?_
     have dE := (((aW.gr bl).gr bm).md bo)
     refine qz [(1, aG)] rfl (Qe9 (cs' := [wv p1.Group.Q]) (Qp3).siz rfl rfl rfl dE rfl rfl) ⟨fun _ => tk0, trivial⟩ ?_
     rintro _ fJ ⟨dF, bp⟩
     refine kM bp<|Qa9 ?_
     have K_218 : Kz [] w7 fJ := ((((((Kz.gr (Kz.refl _ _) al).gr co).gr bl).gr bm).md bo).md bp)
     have dG := ((bM.md bo (Qau aX)).md bp (Qd7 J))
     have dH := (dD.md bp)
     exact ⟨rfl, ⟨fH, cp, ab, aH, aI, aG⟩, sbq, hm, dG, ⟨(Qbs (A := (fun x => w7.heap.size ≤ x)) J)⟩, dH, (by omega), dF, (by omega), ⟨(Qlf (A := (fun x => x ≠ cp)) aX)⟩, (by omega), ⟨(Qbs (A := (fun x => x ≠ aG)) J)⟩, K_218⟩
   refine Qal<|qz [] rfl (Qa8 (cs := [(.slice none 0 0)]) Xaq rfl) ⟨fun _ => tk0, trivial⟩ ?_
   rintro _ ho ⟨cq, rfl, fK, bN, bq⟩
   have gA := bq.size
   have fL := bN.lt
   refine kG bq ?_
   obtain ⟨fM, dI, hm⟩ := bnd hm
   refine qz [] rfl (eC Xf8 rfl (Qif dI)) ⟨fun _ => tk0, trivial⟩ ?_
   rintro ad hp ⟨_, aJ, aK, rfl, ae, n, br⟩
   refine kG br ?_
   have dJ := (bN.gr br)
   refine qz [(1, cq)] rfl (Qe9 (cs' := [ad]) (Qow).siz rfl rfl (Own.oneB ae) dJ rfl rfl) ⟨fun _ => tk0, trivial⟩ ?_
   rintro _ hq ⟨dK, bs⟩
   refine kM bs ?_
   have dL := (((aW.gr bq).gr br).md bs)
   refine qz [(1, aG)] rfl (Qe9 (cs' := [wv p1.Group.Q]) (Qp3).siz rfl rfl rfl dL rfl rfl) ⟨fun _ => tk0, trivial⟩ ?_
   rintro _ fO ⟨dM, bu⟩
   refine kM bu<|Qa9 ?_
   have K_229 : Kz [] w7 fO := ((((((Kz.gr (Kz.refl _ _) al).gr co).gr bq).gr br).md bs).md bu)
   have dN := ((ae.md bs (Qd7 n)).md bu (Qd7 n))
   have dO := (dK.md bu)
   exact ⟨rfl, ⟨fM, cq, ad, aJ, aK, aG⟩, sbq, hm, dN, ⟨(Qbs (A := (fun x => w7.heap.size ≤ x)) n)⟩, dO, (by omega), dM, (by omega), ⟨(Qbs (A := (fun x => x ≠ cq)) n)⟩, (by omega), ⟨(Qbs (A := (fun x => x ≠ aG)) n)⟩, K_229⟩
 clear hm; rintro ⟨a9, bq8, vy10, zy10, gy10, bq11⟩ hr ⟨hm, ar, e2, M, e3, N, e4, e5, e6, e7, ao⟩
 have t := ar.lth
 have gB := M.lt
 have gC := N.lt
 unfold Qjf at hm
 refine Qa3<|dw [([])] [] (.leaf [(0,10),(1,10),(3,10),(4,10),(5,10),(6,10),(2,0),(7,0),(8,10),(9,10)]) ?_
 intro fP cr gD
 refine Qal ?_
 have Y5 := Gr.trans (Gr.trans G2 Y1) G5
 have fQ := ((((b8.gr Y5).kz K7).kz ao).gr cr)
 refine dh 0 rfl rfl (fun w hS => Qa4 Qak rfl (Bx.kp fQ hS) rfl)<|dm 0 rfl rfl<|dh 0 rfl rfl (fun w hS => Qa0 Qk5 rfl)<|dh 0 rfl rfl (fun w hS => Qa0 Qmo rfl) ?_
 have bw := ((ce.kz ao).gr cr)
 refine dh 0 rfl rfl (fun w hS => Qa2 (v := wv p1.Group.Q) Qb5 rfl (Bx.kp bw hS) rfl)<|dh 0 rfl rfl (fun w hS => Qyx (a := p1.Group.Q) (b := 1#64) rfl rfl)<|qz [] rfl (eC Qpe rfl (Qes p0 (un8 41#8) (Qiy _) (Qiw _) p4 _)) ⟨fun _ => tk0, trivial⟩ ?_
 rintro _ ht ⟨rfl, ct⟩
 have hu := ct.size
 refine kG ct ?_
 obtain ⟨fR, dP, hm⟩ := bnd hm
 refine qz [] rfl (eC Xli rfl (Qq9 dP)) ⟨fun _ => tk0, trivial⟩ ?_
 rintro _ bx ⟨rfl, cu⟩
 have hw := cu.size
 refine kG cu ?_
 have Y6 := Gr.trans ct cu
 have dQ := ((Kp.refl ([]) fP).gr Y6)
 refine qh 0 rfl rfl dQ (fun w hS => Qtn (a := 1#64) (b := fR) rfl rfl)<|dn 0 rfl rfl dQ<|Qa1 ?_
 have Y7 := Gr.trans cr Y6
 have fS := ((fn.kz ao).trans Y7)
 refine qj (β := BitVec 64 × Nat × Value × Nat × Nat × Value × Nat × Nat) ([17] ++ rg 79 9) (fun ⟨K, bq13, vy15, zy15, gy15, vy16, zy16, gy16⟩ => [(17, .pointer (some ⟨bq13, 0, none⟩))]) (fun ⟨K, bq13, vy15, zy15, gy15, vy16, zy16, gy16⟩ wr => (Qn8 p1 p2 p3 a9 K = some r) ∧ Own wr zy15 gy15 133 18 vy15 ([].map Qcc.cs) ∧ Hdn (zy15 = 0 ∨ bx.heap.size ≤ gy15) ∧ Own wr zy16 gy16 31 2 vy16 ([].map Qah.cs) ∧ Hdn (zy16 = 0 ∨ bx.heap.size ≤ gy16) ∧ Bx wr bq13 48 (Qaa.cs (Qaa.mk [] K [] k0 (drv p3 (un8 53#8) 0#64)) vy15 vy16) ∧ bx.heap.size ≤ bq13 ∧ Hdn (zy16 = 0 ∨ zy15 = 0 ∨ gy16 ≠ gy15) ∧ Hdn (zy15 = 0 ∨ gy15 ≠ bq13) ∧ Hdn (zy16 = 0 ∨ gy16 ≠ bq13) ∧ Kz [] bx wr) ?_ ?_
 · refine dw [([])] [] (.fork [(0,10),(1,10),(2,10),(3,10),(4,10),(6,10)] (.fork [(5,0)] (.leaf [(7,0),(8,10),(9,0),(10,0)]) (.leaf [(9,0),(7,0),(8,10),(10,0)])) (.leaf [(9,0),(5,0),(7,0),(8,10),(10,0)])) ?_
   intro cv aY gE
   refine Qbc ?_
   have bO := ((bw.gr Y6).gr aY)
   refine dh 0 rfl rfl (fun w hS => Qa4 Qcn rfl (Bx.kp bO hS) rfl)<|dh 0 rfl rfl (fun w hS => Qa0 Qk5 rfl)<|dh 0 rfl rfl (fun w hS => Qa0 Qyj rfl)<|dh 0 rfl rfl (fun w hS => Qa2 (v := wv p1.Group.G) Qb5 rfl (Bx.kp bO hS) rfl)<|dm 0 rfl rfl ?_
   have Y8 := Gr.trans G4 G5
   have dR := (((((b9.gr Y8).kz K7).kz ao).gr Y7).gr aY)
   refine dh 0 rfl rfl (fun w hS => Qa4 Qak rfl (Bx.kp dR hS) rfl)<|Qbt ?_ ?_
   · refine Qbc ?_
     obtain ⟨bz, dS, hm⟩ := bnd hm
     refine qz [] rfl (eC Qzp rfl (Ql9 dS)) ⟨fun _ => tk0, trivial⟩ ?_
     rintro _ hy ⟨rfl, aL⟩
     have gF := aL.size
     refine kG aL<|Qbt ?_ ?_
     · refine Qal<|qz [] rfl (eC Qpe rfl (Qes p3 (un8 53#8) (Qiy _) (Qiw _) 0#64 _)) ⟨fun _ => tk0, trivial⟩ ?_
       rintro _ hz ⟨rfl, bA⟩
       have gG := bA.size
       refine kG bA ?_
       have dT := (((Kp.refl ([]) cv).gr aL).gr bA)
       refine qh 0 rfl rfl dT (fun w hS => Qas (cs := Qaa.cs (Qaa.mk [] bz [] k0 (drv p3 (un8 53#8) 0#64)) (.slice none 0 0) (.slice none 0 0)) Qr4 rfl (by obtain ⟨cw, ap⟩ := Xc0 (drv p3 (un8 53#8) 0#64); rw [← ap]; exact (Qk4 rfl rfl rfl (Qk4 rfl rfl rfl (by kernel_rfl)))))<|qz [] rfl (Qa8 (cs := Qaa.cs (Qaa.mk [] 0#64 [] k0 k0) (.slice none 0 0) (.slice none 0 0)) Quy rfl) ⟨fun _ => tk0, trivial⟩ ?_
       rintro _ hA ⟨dU, rfl, fT, dV, dW⟩
       refine kG dW<|qz [(1, dU)] rfl (Qaj Qcs rfl rfl (Qaa.cs_ones _ _ _ rfl rfl) dV rfl rfl) ⟨fun _ => tk0, trivial⟩ ?_
       rintro _ hB ⟨dX, dY⟩
       refine kM dY<|Qa9 ?_
       exact ⟨rfl, ⟨bz, dU, (.slice none 0 0), 0, 0, (.slice none 0 0), 0, 0⟩, sbq, hm, (Qax _ 0 133 18), ⟨(.inl rfl)⟩, (Qax _ 0 31 2), ⟨(.inl rfl)⟩, dX, (by omega), ⟨(.inl rfl)⟩, ⟨.inl rfl⟩, ⟨.inl rfl⟩, (((((kz0.gr aY).gr aL).gr bA).gr dW).md dY)⟩
     refine Qal<|qz [] rfl (Qa8 (cs := Qaa.cs (Qaa.mk [] 0#64 [] k0 k0) (.slice none 0 0) (.slice none 0 0)) Quy rfl) ⟨fun _ => tk0, trivial⟩ ?_
     rintro _ hC ⟨dZ, rfl, fU, d0, cx⟩
     refine kG cx<|qz [] rfl (eC Qpe rfl (Qes p3 (un8 53#8) (Qiy _) (Qiw _) 0#64 _)) ⟨fun _ => tk0, trivial⟩ ?_
     rintro _ hD ⟨rfl, bB⟩
     refine kG bB ?_
     have d1 := ((((Kp.refl ([]) cv).gr aL).gr cx).gr bB)
     refine qh 0 rfl rfl d1 (fun w hS => Qas (cs := Qaa.cs (Qaa.mk [] bz [] k0 (drv p3 (un8 53#8) 0#64)) (.slice none 0 0) (.slice none 0 0)) Qr4 rfl (by obtain ⟨cw, ap⟩ := Xc0 (drv p3 (un8 53#8) 0#64); rw [← ap]; exact (Qk4 rfl rfl rfl (Qk4 rfl rfl rfl (by kernel_rfl))))) ?_
     have d2 := (d0.gr bB)
     refine qz [(1, dZ)] rfl (Qaj Qcs rfl rfl (Qaa.cs_ones _ _ _ rfl rfl) d2 rfl rfl) ⟨fun _ => tk0, trivial⟩ ?_
     rintro _ hE ⟨d3, d4⟩
     refine kM d4<|Qa9 ?_
     exact ⟨rfl, ⟨bz, dZ, (.slice none 0 0), 0, 0, (.slice none 0 0), 0, 0⟩, sbq, hm, (Qax _ 0 133 18), ⟨(.inl rfl)⟩, (Qax _ 0 31 2), ⟨(.inl rfl)⟩, d3, (by omega), ⟨(.inl rfl)⟩, ⟨.inl rfl⟩, ⟨.inl rfl⟩, (((((kz0.gr aY).gr aL).gr cx).gr bB).md d4)⟩
   refine Qal<|qz [] rfl (Qa8 (cs := Qaa.cs (Qaa.mk [] 0#64 [] k0 k0) (.slice none 0 0) (.slice none 0 0)) Quy rfl) ⟨fun _ => tk0, trivial⟩ ?_
   rintro _ hF ⟨d5, rfl, fV, d6, cy⟩
   refine kG cy ?_
   obtain ⟨d7, d8, hm⟩ := bnd hm
   refine qz [] rfl (eC Qzp rfl (Ql9 d8)) ⟨fun _ => tk0, trivial⟩ ?_
   rintro _ hG ⟨rfl, bC⟩
   refine kG bC<|qz [] rfl (eC Qpe rfl (Qes p3 (un8 53#8) (Qiy _) (Qiw _) 0#64 _)) ⟨fun _ => tk0, trivial⟩ ?_
   rintro _ hH ⟨rfl, bD⟩
   refine kG bD ?_
   have d9 := ((((Kp.refl ([]) cv).gr cy).gr bC).gr bD)
   refine qh 0 rfl rfl d9 (fun w hS => Qas (cs := Qaa.cs (Qaa.mk [] d7 [] k0 (drv p3 (un8 53#8) 0#64)) (.slice none 0 0) (.slice none 0 0)) Qr4 rfl (by obtain ⟨cw, ap⟩ := Xc0 (drv p3 (un8 53#8) 0#64); rw [← ap]; exact (Qk4 rfl rfl rfl (Qk4 rfl rfl rfl (by kernel_rfl))))) ?_
   have ea := ((d6.gr bC).gr bD)
   refine qz [(1, d5)] rfl (Qaj Qcs rfl rfl (Qaa.cs_ones _ _ _ rfl rfl) ea rfl rfl) ⟨fun _ => tk0, trivial⟩ ?_
   rintro _ hI ⟨eb, ec⟩
   refine kM ec<|Qa9 ?_
   exact ⟨rfl, ⟨d7, d5, (.slice none 0 0), 0, 0, (.slice none 0 0), 0, 0⟩, sbq, hm, (Qax _ 0 133 18), ⟨(.inl rfl)⟩, (Qax _ 0 31 2), ⟨(.inl rfl)⟩, eb, (by omega), ⟨(.inl rfl)⟩, ⟨.inl rfl⟩, ⟨.inl rfl⟩, (((((kz0.gr aY).gr cy).gr bC).gr bD).md ec)⟩
 clear hm; rintro ⟨K, bq13, vy15, zy15, gy15, vy16, zy16, gy16⟩ hJ ⟨hm, au, av, aw, f, ax, e8, D, E, p, F⟩
 have hK := F.size
 have am := au.lth
 have L := aw.lth
 have gH := ax.lt
 unfold Qn8 at hm
 refine qs 3 rfl<|qv rfl (Qfb rfl rfl)<|qe rfl (Qa8 Xql rfl) ?_
 rintro _ hL ⟨aq, rfl, fW, bP, y⟩
 have hM := y.size
 have gI := bP.lt
 refine qe rfl (Qe9 (Qy4).siz rfl rfl rfl bP rfl rfl) ?_
 rintro _ aM ⟨aZ, z⟩
 have hN := z.size
 refine qd 2 rfl<|qv rfl (Qfb rfl rfl)<|qm rfl<|Qa1<|Qa3 ?_
 refine qs 3 rfl<|qm rfl ?_
 have ed := (((((cO.kz ao).gr Y7).kz F).gr y).md z (Qau b7))
 refine qv rfl (Qbi (l := p2) (c := ic) Tryz.underlying44 rfl ed)<|qm rfl<|Qa1<|Qan ?_
 have fX := (((fS.kz F).trans y).md z)
 have ee := ((((ar.gr Y7).kz F).gr y).md z (Qau t))
 have ef := ((au.gr y).md z (Qau am))
 have fY := ((aw.gr y).md z (Qau L))
 have fZ := ((ax.gr y).md z)
 refine Qbj (α := Nat × Int × List Qah × Value × Nat × Nat) ([21] ++ rg 92 9) (fun ⟨n5, af, an, vy22, zy22, gy22⟩ => [(92, .int .i64 af)]) (fun ⟨n5, af, an, vy22, zy22, gy22⟩ wr => (Qc3 (Qi9 p1 p2 p3 a9 K) n5 (af, an) = some r) ∧ Own wr zy22 gy22 31 2 vy22 (an.map Qah.cs) ∧ Hdn (zy22 = 0 ∨ (gy22 = gy16 ∧ zy16 ≠ 0) ∨ aM.heap.size ≤ gy22) ∧ Bx wr bq13 48 (Qaa.cs (Qaa.mk [] K an k0 (drv p3 (un8 53#8) 0#64)) vy15 vy22) ∧ Kz [(1, bq13), (zy16, gy16)] aM wr) (fun ⟨n5, af, an, vy22, zy22, gy22⟩ => n5) ⟨Qcw, 0, [], vy16, zy16, gy16⟩ ?_ ?_ ?_
 · exact sbq
 · exact ⟨hm, fY, ⟨tk0⟩, fZ, Kz.refl _ _⟩
 clear hm; rintro ⟨n5, af, an, vy22, zy22, gy22⟩ aN ⟨hm, ay, d, ag, h⟩
 have hO := h.size
 have gJ := ag.lt
 have hb := Qbv hm; clear hm; obtain ⟨n5, rfl, hm⟩ := hb
 generalize cz : Qc3 (Qi9 p1 p2 p3 a9 K) n5 = gK at hm
 unfold Qi9 at hm
 try dsimp only at hm
 refine qs 1 rfl<|qv rfl (Qcd (a := af) (b := (p2.length : Int)) rfl rfl)<|Qa1<|Qa3<|Qam rfl (fun c8 => ?_) (fun c8 => ?_)
 · replace hm := iT c8 hm
   refine qu<|Qa3<|Qan<|qs 3 rfl ?_
   obtain ⟨a0, bQ, hm⟩ := bnd hm
   have eg := (ed.kz h (tk2 ((Qld (Qbs (A := (fun x => zp2 = 0 ∨ x ≠ gp2)) f (fun x hx => (tk1 b7.o)))) : zp2 = 0 ∨ zy16 = 0 ∨ gp2 ≠ gy16) (Qau (b := bq13) b7)))
   refine qv rfl (Qf7 (i := af) Tryz.underlying44 (Qaw).siz rfl eg rfl bQ)<|qv rfl (Qk9 (q := 0) (u := .int .i64 a0) Qaw rfl eg bQ (by first | rfl | omega) rfl)<|qm rfl<|Qa1<|qg 4 rfl<|qm rfl<|qm rfl ?_
   refine qv rfl (Qce (k := .i64) (a := a0) (b := 1) rfl rfl)<|Qxq 16 Tryz.func104 rfl rfl rfl Xlb rfl rfl rfl rfl rfl<|dw [([bq13] ++ zf zy22 gy22),([] ++ zf zy22 gy22)] [(12, [1])] (.leaf [(0,10),(1,11),(2,10),(3,10),(4,10),(5,10),(6,10),(7,0),(8,10),(9,0),(10,0),(11,10),(12,0)]) ?_
   intro O ah gL
   refine Qal<|qh 0 rfl rfl (Kp.refl ([bq13] ++ zf zy22 gy22) O) (fun w hS => Qa0 Qgi rfl) ?_
   have cA := (ag.gr ah)
   refine qh 1 rfl rfl (Kp.refl ([] ++ zf zy22 gy22) O) (fun w hS => Qa2 (v := vy22) Qix rfl (Bx.kp cA hS (tk1 (Qd2 (b := bq13) d (tk1 p.o)))) rfl)<|dn 0 rfl rfl (Kp.refl ([bq13] ++ zf zy22 gy22) O)<|qh 0 rfl rfl (Kp.refl ([bq13] ++ zf zy22 gy22) O) (fun w hS => Qfe Qfp rfl) ?_
   have f0 := ((aZ.kz h (tk1 (Qau (b := aq) L))).gr ah)
   refine qh 0 rfl rfl (Kp.refl ([bq13] ++ zf zy22 gy22) O) (fun w hS => Qa2 Qy4 rfl (Bx.kp f0 hS (tk1 (Qd2 (b := aq) d (Qau L)))) rfl)<|dn 0 rfl rfl (Kp.refl ([bq13] ++ zf zy22 gy22) O)<|qh 0 rfl rfl (Kp.refl ([bq13] ++ zf zy22 gy22) O) (fun w hS => Qfe Qfp rfl) ?_
   have f1 := ((((((bw.gr Y6).kz F).gr y).md z).kz h (tk1 (Qd7 (b := b2) f))).gr ah)
   have f2 := ((ef.kz h (tk2 ((tk1 D.o) : zy15 = 0 ∨ zy16 = 0 ∨ gy15 ≠ gy16) ((tk1 E.o) : zy15 = 0 ∨ gy15 ≠ bq13))).gr ah)
   have eh := (ay.gr ah)
   have f3 := ((((((M.gr Y7).kz F).gr y).md z).kz h (tk1 (Qd7 (b := bq8) f))).gr ah)
   have f4 := ((ee.kz h (tk2 ((Qld (Qbs (A := (fun x => zy10 = 0 ∨ x ≠ gy10)) f (fun x hx => (tk1 t.o)))) : zy10 = 0 ∨ zy16 = 0 ∨ gy10 ≠ gy16) (Qau (b := bq13) t))).gr ah)
   have f5 := ((((((N.gr Y7).kz F).gr y).md z).kz h (tk1 (Qd7 (b := bq11) f))).gr ah)
   obtain ⟨cB, ei, hm⟩ := bnd hm
   refine qz [] rfl (Qcy Xfr rfl rfl (Qoy ei f1 cA (Own.rd f2) (Own.rd eh) f3 (Own.rd f4) f5)) ⟨fun _ => tk0, fun _ => tk0, trivial⟩ ?_
   rintro _ hP ⟨rfl, aO⟩
   have hQ := aO.size
   refine kG aO ?_
   have ej := ((Kp.refl ([bq13] ++ zf zy22 gy22) O).gr aO)
   refine qh 0 rfl rfl ej (fun w hS => Qas (cs := Qah.cs (Qah.mk (wd (w64 (a0 + 1))) cB)) Xin rfl rfl)<|qz [] rfl (Qdk [(Qah.mk (wd (w64 (a0 + 1))) cB)] Qah.cs Qt2 rfl rfl (Qjr rfl) rfl rfl rfl) ⟨fun _ => tk0, fun _ => tk0, trivial⟩ ?_
   rintro gM hR ⟨gN, f6, ek, aP⟩
   have hT := aP.size
   refine kG aP ?_
   have f7 := ((eh.gr aO).gr aP)
   obtain ⟨el, em, hm⟩ := bnd hm
   refine qz [(zy22, gy22)] rfl (Qk1 (l := an) (m := [(Qah.mk (wd (w64 (a0 + 1))) cB)]) (c := Qah.cs) Qxr rfl rfl f7 (Own.rd ek) em (by decide)) ⟨fun _ => (tk1 (tk0 : zy22 = 0 ∨ (gy22 = gy22 ∧ zy22 ≠ 0) ∨ O.heap.size ≤ gy22)), fun _ => (tk1 (tk0 : zy22 = 0 ∨ (gy22 = gy22 ∧ zy22 ≠ 0) ∨ O.heap.size ≤ gy22)), trivial⟩ ?_
   rintro bR hU ⟨en, eo, bS, az, gO, bT⟩
   refine ⟨Kz.ofKa az, ?_⟩
   have f8 := ((ej.gr aP).ka az (tk1 (tk0 : zy22 = 0 ∨ (gy22 = gy22 ∧ zy22 ≠ 0) ∨ O.heap.size ≤ gy22)))
   refine qh 0 rfl rfl f8 (fun w hS => Qa0 Qgi rfl) ?_
   have f9 := (((cA.gr aO).gr aP).ka az (tk1 (Qd2 (b := bq13) d (tk1 p.o))))
   refine qz [(1, bq13)] rfl (Qe9 (cs' := Qaa.cs (Qaa.mk [] K el k0 (drv p3 (un8 53#8) 0#64)) vy15 bR) (Qix).siz rfl rfl (Own.oneB bS) f9 rfl rfl) ⟨fun _ => tk0, nofun, trivial⟩ ?_
   rintro _ ga ⟨ep, cC⟩
   refine kM cC<|Qa9<|⟨_, _, rfl, Qh6 rfl, ?_⟩
   refine Qa9<|Qay<|Qaz<|qg 2 rfl<|qv rfl (Qce (k := .i64) (a := af) (b := 1) rfl rfl)<|qm rfl<|Qa9 ?_
   have K_80 : Kz [(1, bq13), (zy16, gy16)] aM ga := (((((h.gr ah).gr aO).gr aP).ka az (tk1 (Qd3 (A := (fun x => (x = gy16 ∧ zy16 ≠ 0) ∨ aM.heap.size ≤ x)) d tk0))).md cC)
   have gb := (bS.md cC (Qvp bT (Qd2 d (tk1 p.o))))
   subst cz
   exact ⟨rfl, ⟨n5, w64 (af + 1), el, bR, en, eo⟩, sbq, ⟨hm, gb, ⟨(Qmj (A := (fun x => (x = gy16 ∧ zy16 ≠ 0) ∨ aM.heap.size ≤ x)) bT (Qd3 (A := (fun x => (x = gy16 ∧ zy16 ≠ 0) ∨ aM.heap.size ≤ x)) d tk0))⟩, ep, K_80⟩, Nat.lt_succ_self _⟩
 replace hm := iF c8 hm
 refine Qbp<|Qb4<|Qb4<|Qbq<|Qaz<|Qa3<|Qa3 ?_
 refine qg 5 rfl<|qv rfl (Qa0 Qmr rfl) ?_
 have er := (((((bw.gr Y6).kz F).gr y).md z).kz h (tk1 (Qd7 (b := b2) f)))
 refine qv rfl (Qa2 (v := .int .i64 p1.Depth) Qaw rfl er rfl) ?_
 obtain ⟨es, hn26, hm⟩ := bnd hm
 refine qv rfl (Qu1 (a := 1) (b := p1.Depth) rfl rfl hn26)<|qv rfl (Qce (k := .i64) (a := Qxk 1 es) (b := 1) rfl rfl)<|qm rfl<|Qa1<|Qan ?_
 have gc := (fX.kz h (tk1 (Qbs (A := (fun x => w.heap.size ≤ x)) f)))
 have et := (ee.kz h (tk2 ((Qld (Qbs (A := (fun x => zy10 = 0 ∨ x ≠ gy10)) f (fun x hx => (tk1 t.o)))) : zy10 = 0 ∨ zy16 = 0 ∨ gy10 ≠ gy16) (Qau (b := bq13) t)))
 have eu := (ef.kz h (tk2 ((tk1 D.o) : zy15 = 0 ∨ zy16 = 0 ∨ gy15 ≠ gy16) ((tk1 E.o) : zy15 = 0 ∨ gy15 ≠ bq13)))
 refine Qbj (α := Nat × Int × List Qah × Value × Nat × Nat) ([22] ++ rg 105 11) (fun ⟨n6, S, T, vy32, zy32, gy32⟩ => [(22, .int .i64 S)]) (fun ⟨n6, S, T, vy32, zy32, gy32⟩ wr => (Qc3 (Qhw p1 p3 a9 K) n6 (S, T) = some r) ∧ Own wr zy32 gy32 31 2 vy32 (T.map Qah.cs) ∧ Hdn (zy32 = 0 ∨ (gy32 = gy22 ∧ zy22 ≠ 0) ∨ aN.heap.size ≤ gy32) ∧ Bx wr bq13 48 (Qaa.cs (Qaa.mk [] K T k0 (drv p3 (un8 53#8) 0#64)) vy15 vy32) ∧ Kz [(1, bq13), (zy22, gy22)] aN wr) (fun ⟨n6, S, T, vy32, zy32, gy32⟩ => n6) ⟨Qcw, w64 ((Qxk 1 es) + 1), an, vy22, zy22, gy22⟩ ?_ ?_ ?_
 · exact sbq
 · exact ⟨hm, ay, ⟨tk0⟩, ag, Kz.refl _ _⟩
 clear hm; rintro ⟨n6, S, T, vy32, zy32, gy32⟩ hV ⟨hm, ai, g, aj, C⟩
 have hW := C.size
 have hb := Qbv hm; clear hm; obtain ⟨n6, rfl, hm⟩ := hb
 generalize cD : Qc3 (Qhw p1 p3 a9 K) n6 = gP at hm
 unfold Qhw at hm
 try dsimp only at hm
 refine Qa3<|qs 6 rfl<|qv rfl (Qa0 Qgi rfl)<|qv rfl (Qa2 (v := vy32) Qix rfl aj rfl)<|qv rfl (Qbi (l := T) (c := Qah.cs) Tryz.underlying46 rfl (Own.rd ai))<|qv rfl (Qa0 Qs0 rfl) ?_
 have cE := (er.kz C (tk1 (Qd2 (b := b2) d (Qd7 f))))
 refine qv rfl (Qa2 (v := .int .i64 p1.Degree) Qaw rfl cE rfl)<|qv rfl (Qcd (a := (T.length : Int)) (b := p1.Degree) rfl rfl)<|Qa1<|Qam rfl (fun c9 => ?_) (fun c9 => ?_)
 · replace hm := iT c9 hm
   refine qu<|Qa3<|Qan<|qg 3 rfl<|qm rfl<|qm rfl ?_
   refine Qxq 16 Tryz.func104 rfl rfl rfl Xlb rfl rfl rfl rfl rfl<|dw [([bq13] ++ zf zy32 gy32),([] ++ zf zy32 gy32)] [(12, [1])] (.leaf [(0,10),(1,11),(2,10),(3,10),(4,10),(5,10),(6,10),(7,0),(8,10),(9,0),(10,0),(11,10),(12,0)]) ?_
   intro P ak gQ
   refine Qal<|qh 0 rfl rfl (Kp.refl ([bq13] ++ zf zy32 gy32) P) (fun w hS => Qa0 Qgi rfl) ?_
   have cF := (aj.gr ak)
   refine qh 1 rfl rfl (Kp.refl ([] ++ zf zy32 gy32) P) (fun w hS => Qa2 (v := vy32) Qix rfl (Bx.kp cF hS (tk1 (Qd2 (b := bq13) g (Qd2 d (tk1 p.o))))) rfl)<|dn 0 rfl rfl (Kp.refl ([bq13] ++ zf zy32 gy32) P)<|qh 0 rfl rfl (Kp.refl ([bq13] ++ zf zy32 gy32) P) (fun w hS => Qfe Qfp rfl) ?_
   have gf := (((aZ.kz h (tk1 (Qau (b := aq) L))).kz C (tk1 (Qd2 (b := aq) d (Qau L)))).gr ak)
   refine qh 0 rfl rfl (Kp.refl ([bq13] ++ zf zy32 gy32) P) (fun w hS => Qa2 Qy4 rfl (Bx.kp gf hS (tk1 (Qd2 (b := aq) g (Qd2 d (Qau L))))) rfl)<|dn 0 rfl rfl (Kp.refl ([bq13] ++ zf zy32 gy32) P)<|qh 0 rfl rfl (Kp.refl ([bq13] ++ zf zy32 gy32) P) (fun w hS => Qfe Qfp rfl) ?_
   have gg := (cE.gr ak)
   have gh := ((eu.kz C (tk2 ((Qld (Qd3 (A := (fun x => zy15 = 0 ∨ x ≠ gy15)) d (tk1 D.o) (fun x hx => (tk1 am.o)))) : zy15 = 0 ∨ zy22 = 0 ∨ gy15 ≠ gy22) ((tk1 E.o) : zy15 = 0 ∨ gy15 ≠ bq13))).gr ak)
   have ew := (ai.gr ak)
   have gi := (((((((M.gr Y7).kz F).gr y).md z).kz h (tk1 (Qd7 (b := bq8) f))).kz C (tk1 (Qd2 (b := bq8) d (Qd7 f)))).gr ak)
   have gj := ((et.kz C (tk2 ((Qld (Qd3 (A := (fun x => zy10 = 0 ∨ x ≠ gy10)) d (Qbs (A := (fun x => zy10 = 0 ∨ x ≠ gy10)) f (fun x hx => (tk1 t.o))) (fun x hx => (tk1 t.o)))) : zy10 = 0 ∨ zy22 = 0 ∨ gy10 ≠ gy22) (Qau (b := bq13) t))).gr ak)
   have gk := (((((((N.gr Y7).kz F).gr y).md z).kz h (tk1 (Qd7 (b := bq11) f))).kz C (tk1 (Qd2 (b := bq11) d (Qd7 f)))).gr ak)
   obtain ⟨cG, ex, hm⟩ := bnd hm
   refine qz [] rfl (Qcy Xfr rfl rfl (Qoy ex gg cF (Own.rd gh) (Own.rd ew) gi (Own.rd gj) gk)) ⟨fun _ => tk0, fun _ => tk0, trivial⟩ ?_
   rintro _ hX ⟨rfl, aQ⟩
   have hY := aQ.size
   refine kG aQ ?_
   have bU := ((Kp.refl ([bq13] ++ zf zy32 gy32) P).gr aQ)
   refine qh 0 rfl rfl bU (fun w hS => Qas (cs := Qah.cs (Qah.mk (wd S) cG)) Xin rfl rfl)<|qz [] rfl (Qdk [(Qah.mk (wd S) cG)] Qah.cs Qt2 rfl rfl (Qjr rfl) rfl rfl rfl) ⟨fun _ => tk0, fun _ => tk0, trivial⟩ ?_
   rintro gR hZ ⟨gS, gl, ey, aR⟩
   have gT := aR.size
   refine kG aR ?_
   have ez := ((ew.gr aQ).gr aR)
   obtain ⟨eA, eB, hm⟩ := bnd hm
   refine qz [(zy32, gy32)] rfl (Qk1 (l := T) (m := [(Qah.mk (wd S) cG)]) (c := Qah.cs) Qxr rfl rfl ez (Own.rd ey) eB (by decide)) ⟨fun _ => (tk1 (tk0 : zy32 = 0 ∨ (gy32 = gy32 ∧ zy32 ≠ 0) ∨ P.heap.size ≤ gy32)), fun _ => (tk1 (tk0 : zy32 = 0 ∨ (gy32 = gy32 ∧ zy32 ≠ 0) ∨ P.heap.size ≤ gy32)), trivial⟩ ?_
   rintro bV h0 ⟨eD, eE, bW, aA, gU, bX⟩
   refine ⟨Kz.ofKa aA, ?_⟩
   have eF := ((bU.gr aR).ka aA (tk1 (tk0 : zy32 = 0 ∨ (gy32 = gy32 ∧ zy32 ≠ 0) ∨ P.heap.size ≤ gy32)))
   refine qh 0 rfl rfl eF (fun w hS => Qa0 Qgi rfl) ?_
   have eG := (((cF.gr aQ).gr aR).ka aA (tk1 (Qd2 (b := bq13) g (Qd2 d (tk1 p.o)))))
   refine qz [(1, bq13)] rfl (Qe9 (cs' := Qaa.cs (Qaa.mk [] K eA k0 (drv p3 (un8 53#8) 0#64)) vy15 bV) (Qix).siz rfl rfl (Own.oneB bW) eG rfl rfl) ⟨fun _ => tk0, nofun, trivial⟩ ?_
   rintro _ gm ⟨eH, cH⟩
   refine kM cH<|Qa9<|⟨_, _, rfl, Qh6 rfl, ?_⟩
   refine Qa9<|Qay<|Qaz<|qg 3 rfl<|qm rfl<|qv rfl (Qce (k := .i64) (a := S) (b := 1) rfl rfl)<|qm rfl ?_
   refine Qa9 ?_
   have K_108 : Kz [(1, bq13), (zy22, gy22)] aN gm := (((((C.gr ak).gr aQ).gr aR).ka aA (tk1 (Qd3 (A := (fun x => (x = gy22 ∧ zy22 ≠ 0) ∨ aN.heap.size ≤ x)) g tk0))).md cH)
   have eI := (bW.md cH (Qvp bX (Qd2 g (Qd2 d (tk1 p.o)))))
   subst cD
   exact ⟨rfl, ⟨n6, w64 (S + 1), eA, bV, eD, eE⟩, sbq, ⟨hm, eI, ⟨(Qmj (A := (fun x => (x = gy22 ∧ zy22 ≠ 0) ∨ aN.heap.size ≤ x)) bX (Qd3 (A := (fun x => (x = gy22 ∧ zy22 ≠ 0) ∨ aN.heap.size ≤ x)) g tk0))⟩, eH, K_108⟩, Nat.lt_succ_self _⟩
 replace hm := iF c9 hm
 refine Qbp<|Qb4<|Qb4<|Qbq<|Qaz<|Qa3<|dw [([bq13])] [] (.leaf [(0,10),(3,10),(1,0),(2,0),(4,0),(5,10),(6,0)]) ?_
 intro gn R gV
 refine Qal ?_
 have eJ := (((aZ.kz h (tk1 (Qau (b := aq) L))).kz C (tk1 (Qd2 (b := aq) d (Qau L)))).gr R)
 refine dh 0 rfl rfl (fun w hS => Qa2 Qy4 rfl (Bx.kp eJ hS) rfl) ?_
 have Y9 := Gr.trans G4 G5
 have eK := ((((((((((b9.gr Y9).kz K7).kz ao).gr Y7).kz F).gr y).md z).kz h (tk1 (Qd7 (b := b3) f))).kz C (tk1 (Qd2 (b := b3) d (Qd7 f)))).gr R)
 refine dh 0 rfl rfl (fun w hS => Qa4 Qak rfl (Bx.kp eK hS) rfl) ?_
 have eL := (cE.gr R)
 have bY := (aj.gr R)
 have bZ := ((eu.kz C (tk2 ((Qld (Qd3 (A := (fun x => zy15 = 0 ∨ x ≠ gy15)) d (tk1 D.o) (fun x hx => (tk1 am.o)))) : zy15 = 0 ∨ zy22 = 0 ∨ gy15 ≠ gy22) ((tk1 E.o) : zy15 = 0 ∨ gy15 ≠ bq13))).gr R)
 have b0 := (ai.gr R)
 have eM := (((((((M.gr Y7).kz F).gr y).md z).kz h (tk1 (Qd7 (b := bq8) f))).kz C (tk1 (Qd2 (b := bq8) d (Qd7 f)))).gr R)
 have eN := ((et.kz C (tk2 ((Qld (Qd3 (A := (fun x => zy10 = 0 ∨ x ≠ gy10)) d (Qbs (A := (fun x => zy10 = 0 ∨ x ≠ gy10)) f (fun x hx => (tk1 t.o))) (fun x hx => (tk1 t.o)))) : zy10 = 0 ∨ zy22 = 0 ∨ gy10 ≠ gy22) (Qau (b := bq13) t))).gr R)
 have eO := (((((((N.gr Y7).kz F).gr y).md z).kz h (tk1 (Qd7 (b := bq11) f))).kz C (tk1 (Qd2 (b := bq11) d (Qd7 f)))).gr R)
 obtain ⟨h1, eP, hm⟩ := bnd hm
 refine qz [] rfl (Qcy Xfr rfl rfl (Qoy eP eL bY (Own.rd bZ) (Own.rd b0) eM (Own.rd eN) eO)) ⟨fun _ => tk0, trivial⟩ ?_
 rintro _ h2 ⟨rfl, eQ⟩
 refine kG eQ ?_
 obtain ⟨bE, eR, hm⟩ := bnd hm
 refine qz [] rfl (eC Xgb rfl (Qo7 eR)) ⟨fun _ => tk0, trivial⟩ ?_
 rintro _ h3 ⟨rfl, eS⟩
 refine kG eS<|qz [] rfl (eC Xep rfl (Xar bE p3 _)) ⟨fun _ => tk0, trivial⟩ ?_
 rintro _ h4 ⟨rfl, eT⟩
 refine kG eT ?_
 have aS := Gr.trans (Gr.trans eQ eS) eT
 have eU := ((Kp.refl ([bq13]) gn).gr aS)
 refine qh 0 rfl rfl eU (fun w hS => Qa0 Qry rfl) ?_
 have eV := (bY.gr aS)
 refine qz [(1, bq13)] rfl (Qvz (cs' := Qaa.cs (Qaa.mk [] K T (Qw4 bE p3) (drv p3 (un8 53#8) 0#64)) vy15 vy32) (vs := kb (Qw4 bE p3)) (Qak).siz rfl rfl rfl rfl rfl eV rfl (by obtain ⟨cw, ap⟩ := Xc0 (drv p3 (un8 53#8) 0#64); rw [← ap]; obtain ⟨h5, go⟩ := Xc0 (Qw4 bE p3); rw [← go]; first | done | rfl)) ⟨fun _ => tk0, trivial⟩ ?_
 rintro _ h6 ⟨eW, a1⟩
 refine kM a1<|qd 3 rfl<|qv rfl (Qa4 Qcs rfl eW rfl) ?_
 have eX := ((((((((((((aT.gr G5).kz K7).kz ao).gr Y7).kz F).gr y).md z).kz h (tk1 (Qd7 (b := b4) f))).kz C (tk1 (Qd2 (b := b4) d (Qd7 f)))).gr R).gr aS).md a1)
 have b5 := ((bZ.gr aS).md a1 (tk1 ((tk1 E.o) : zy15 = 0 ∨ gy15 ≠ bq13)))
 have b6 := ((b0.gr aS).md a1 (Qd2 g (Qd2 d (tk1 p.o))))
 refine qe rfl (Qaj Qcs rfl rfl (Qaa.cs_ones _ _ _ (Own.oneB b5) (Own.oneB b6)) eX rfl rfl) ?_
 rintro _ h7 ⟨eY, cI⟩
 refine qm rfl<|Qa1<|Qag ?_
 have eZ := (b5.md cI (Qd7 av))
 have e0 := (b6.md cI (Qd2 g (Qd2 d (Qd7 f))))
 have e1 := (((((gc.kz C (tk1 (Qd3 (A := (fun x => w.heap.size ≤ x)) d (Qbs (A := (fun x => w.heap.size ≤ x)) f)))).trans R).trans aS).md a1).md cI)
 cases hm
 refine ⟨_, _, rfl, Qbk rfl (Qap Qcs rfl eY rfl) (Qab rfl), ?_⟩
 exact ⟨vy15, zy15, gy15, vy32, zy32, gy32, rfl, eZ, ⟨(Qbs (A := (fun x => w.heap.size ≤ x)) av)⟩, e0, ⟨(Qd3 (A := (fun x => w.heap.size ≤ x)) g (Qd3 (A := (fun x => w.heap.size ≤ x)) d (Qbs (A := (fun x => w.heap.size ≤ x)) f)))⟩, ⟨(Qd3 (A := (fun x => zy15 = 0 ∨ x ≠ gy15)) g (Qd3 (A := (fun x => zy15 = 0 ∨ x ≠ gy15)) d (tk1 D.o) (fun x hx => (tk1 am.o))) (fun x hx => (tk1 am.o)))⟩, e1⟩
end Go.Proofs.YtjdffpglgkefmaaGreat.Mx
