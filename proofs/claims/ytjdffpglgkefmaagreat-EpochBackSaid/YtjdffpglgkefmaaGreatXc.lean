/- Walks that follow mirrors: Xc. Printed by mx.py. -/
import Derived.Test.YtjdffpglgkefmaaGreatXb
import Derived.Test.YtjdffpglgkefmaaGreatZd
set_option linter.unusedVariables false
set_option linter.unusedSimpArgs false
set_option maxRecDepth 100000
set_option maxHeartbeats 2000000
namespace Go.Proofs.YtjdffpglgkefmaaGreat.Mx
open Go Go.RowKit Go.Sx
theorem Qw0 : ZV Tryz.prog 161 (.slice none 0 0) := fun _ => by kernel_rfl
theorem Qwg : ZV Tryz.prog 163 (.int .u64 0) := fun _ => by kernel_rfl
theorem Xkj : ZV Tryz.prog 167 (.nilFunc) := fun _ => by kernel_rfl
theorem Qve : One Tryz.prog 167 := fun _ => ⟨by kernel_rfl, by kernel_rfl⟩
theorem Xg0 : En Tryz.prog 104 := fun _ _ => by kernel_rfl
theorem Xdj : En Tryz.prog 102 := fun _ _ => by kernel_rfl
theorem Qo2 {p0 p1 p2 p3 p4 bp1 bp2 vp2_0 zp2_0 gp2_0 op2_0 vp2_2 zp2_2 gp2_2 op2_2 bp3 vp3_0 zp3_0 gp3_0 op3_0 bp4 r} (hm : Qlp p0 p1 p2 p3 p4 = some r) {w : World} (hbp1 : Bx w bp1 28 (Qaj.cs p1)) (hbp2 : Bx w bp2 48 (Qa8.cs p2 vp2_0 vp2_2)) (b : Rd w zp2_0 gp2_0 op2_0 18 vp2_0 (p2.Items.map Qbd.cs)) (c : Rd w zp2_2 gp2_2 op2_2 2 vp2_2 (p2.Points.map Qag.cs)) (hbp3 : Bx w bp3 161 ([vp3_0])) (a : Rd w zp3_0 gp3_0 op3_0 1 vp3_0 (p3.map uwc)) (hbp4 : Bx w bp4 163 ([wv p4])) :
    Calls Tryz.prog 102 [wv p0, .pointer (some ⟨bp1, 0, none⟩), .pointer (some ⟨bp2, 0, none⟩), .pointer (some ⟨bp3, 0, none⟩), .pointer (some ⟨bp4, 0, none⟩)].toArray w fun e w' => ∃ v, e = .returned v ∧ (v = wv r ∧ Gr w w') := by
 unfold Qlp at hm
 refine Qa5 15 Tryz.func102 rfl rfl rfl<|qs 1 rfl<|qm rfl<|Qa1<|Qa3<|dw [([])] [] (.leaf [(0,10),(1,10),(2,10),(3,10),(4,10),(5,10),(6,0),(7,0),(8,10)]) ?_
 intro w1 G1 l
 refine Qam ?_
 have B8 := (hbp1.gr G1)
 refine dh 0 rfl rfl (fun w hS => Qa6 Qcq rfl (Bx.kp B8 hS) rfl)<|dh 0 rfl rfl (fun w hS => Qa0 Qlz rfl) ?_
 have B9 := (hbp2.gr G1)
 refine dh 0 rfl rfl (fun w hS => Qa2 (v := wv p2.Base) Qb7 rfl (Bx.kp B9 hS) rfl) ?_
 have d := (hbp3.gr G1)
 refine dh 0 rfl rfl (fun w hS => Qa2 (v := vp3_0) Qnt rfl (Bx.kp d hS) rfl) ?_
 have f := (hbp4.gr G1)
 refine dh 0 rfl rfl (fun w hS => Qa2 (v := wv p4) Qnr rfl (Bx.kp f hS) rfl)<|dm 0 rfl rfl ?_
 have g := (a.gr G1)
 obtain ⟨x1, h, hm⟩ := bnd hm
 refine qz [] rfl (eC Xgq rfl (Qkr h g)) ⟨fun _ => tk0, trivial⟩ ?_
 rintro _ w2 ⟨rfl, G2⟩
 refine kG G2 ?_
 obtain ⟨x2, i, hm⟩ := bnd hm
 refine qz [] rfl (eC Qx8 rfl (Qkb i)) ⟨fun _ => tk0, trivial⟩ ?_
 rintro _ w3 ⟨rfl, G3⟩
 refine kG G3 ?_
 have j := (((Kp.refl ([]) w1).gr G2).gr G3)
 refine dn 0 rfl rfl j<|Qa1<|Qaf ?_
 have k := ((((Gr.refl w).trans G1).trans G2).trans G3)
 cases hm
 refine ⟨_, _, rfl, Qay rfl (Qac rfl), ?_⟩
 exact ⟨rfl, k⟩
theorem Qyp {p0 p1 p2 p3 p4 vp2 zp2 gp2 op2 r} (hm : Qt5 p0 p1 p2 p3 p4 = some r) {w : World} (cJ : Rd w zp2 gp2 op2 1 vp2 (p2.map ic)) :
    Calls Tryz.prog 49 [kv p0, .agg (Qaj.cs p1).toArray, vp2, kv p3, wv p4].toArray w fun e w' => ∃ v, e = .returned v ∧ (∃ ur0_0 zr0_0 gr0_0 ur0_2 zr0_2 gr0_2, v = .tuple [.agg (Qa8.cs r.1 ur0_0 ur0_2).toArray, .int .i64 r.2].toArray ∧ Own w' zr0_0 gr0_0 133 18 ur0_0 (r.1.Items.map Qbd.cs) ∧ Hdn (zr0_0 = 0 ∨ w.heap.size ≤ gr0_0) ∧ Own w' zr0_2 gr0_2 31 2 ur0_2 (r.1.Points.map Qag.cs) ∧ Hdn (zr0_2 = 0 ∨ w.heap.size ≤ gr0_2) ∧ Hdn (zr0_2 = 0 ∨ zr0_0 = 0 ∨ gr0_2 ≠ gr0_0) ∧ Gr w w') := by
 have b7 := cJ.lth
 unfold Qt5 at hm
 refine Qa5 123 Tryz.func49 rfl rfl rfl<|qs 5 rfl<|qe rfl (Qat (cs := kb p0) rfl rfl) ?_
 rintro _ w1 ⟨b1, rfl, gl, b8, G1⟩
 have gS := b8.lt
 refine qe rfl (Qat (cs := Qaj.cs p1) rfl rfl) ?_
 rintro _ w2 ⟨b2, rfl, gm, cK, G2⟩
 have gT := cK.lt
 refine qe rfl (Qat (cs := kb p3) rfl rfl) ?_
 rintro _ w3 ⟨b3, rfl, gn, b9, G3⟩
 have gU := b9.lt
 refine qe rfl (Qaa (cs := Qa8.cs (Qa8.mk [] 0#64 [] k0 k0) (.slice none 0 0) (.slice none 0 0)) Qtd rfl) ?_
 rintro _ w4 ⟨b4, rfl, go, aT, G4⟩
 have gV := aT.lt
 refine qm rfl<|Qa1<|Qa3<|qs 3 rfl ?_
 have Y1 := Gr.trans G3 G4
 have ca := (cK.gr Y1)
 refine qv rfl (Qa6 Qcq rfl ca rfl) ?_
 obtain ⟨x1, e8, hm⟩ := bnd hm
 refine qe rfl (eC Xeb rfl (Qm3 e8)) ?_
 rintro _ w5 ⟨rfl, G5⟩
 have gW := G5.size
 refine qv rfl (Qci rfl)<|Qa1<|Qal rfl (fun c1 => ?_) (fun c1 => ?_)
 · replace hm := Qc0 c1 hm
   refine qs 3 rfl<|qv rfl (Qau (cs := Qa8.cs (Qa8.mk [] 0#64 [] k0 k0) (.slice none 0 0) (.slice none 0 0)) Qps rfl (by kernel_rfl)) ?_
   have e9 := (aT.gr G5)
   refine qe rfl (Qah Qcp rfl rfl (Qa8.cs_ones _ _ _ rfl rfl) e9 rfl rfl) ?_
   rintro _ w6 ⟨fa, M6⟩
   refine qm rfl<|qb ?_
   have Y2 := Gr.trans (Gr.trans (Gr.trans G1 G2) Y1) G5
   have fb := (((Gr.refl w).trans Y2).md M6)
   cases hm
   refine ⟨_, _, rfl, Qbm rfl (Qaq Qcp rfl fa rfl) (Qac rfl), ?_⟩
   exact ⟨(.slice none 0 0), 0, 0, (.slice none 0 0), 0, 0, rfl, (Qaw _ 0 133 18), ⟨.inl rfl⟩, (Qaw _ 0 31 2), ⟨.inl rfl⟩, ⟨(.inl rfl)⟩, fb⟩
 replace hm := Qc1 c1 hm
 refine qu<|Qa3<|qs 3 rfl<|qm rfl ?_
 have Y3 := Gr.trans (Gr.trans (Gr.trans G1 G2) Y1) G5
 have cb := (cJ.gr Y3)
 refine qv rfl (Qba (l := p2) (c := ic) Tryz.underlying44 rfl cb)<|qm rfl<|Qa1<|Qao ?_
 have cc := ((Gr.refl w).trans Y3)
 refine Qbk (α := Nat × Int) ([11, 12, 13] ++ rg 29 29) (fun ⟨n1, a3⟩ => [(11, .int .i64 0), (29, .int .i64 a3)]) (fun ⟨n1, a3⟩ wr => (Qcr (Qm5 p0 p1 p2 p3 p4) n1 a3 = some r) ∧ Kz [] w5 wr) (fun ⟨n1, a3⟩ => n1) ⟨Qdn, 0⟩ ?_ ?_ ?_
 · exact sbq
 · exact ⟨hm, Kz.refl _ _⟩
 clear hm; rintro ⟨n1, a3⟩ w7 ⟨hm, K7⟩
 have gX := K7.size
 have hb := Qbt hm; clear hm; obtain ⟨n1, rfl, hm⟩ := hb
 generalize cd : Qcr (Qm5 p0 p1 p2 p3 p4) n1 = cL at hm
 unfold Qm5 at hm
 try dsimp only at hm
 refine qs 1 rfl<|qv rfl (Qc9 (a := a3) (b := (p2.length : Int)) rfl rfl)<|Qa1<|Qa3<|Qal rfl (fun c2 => ?_) (fun c2 => ?_)
 · replace hm := iT c2 hm
   refine qu<|Qa3<|Qao<|qs 5 rfl<|qm rfl ?_
   obtain ⟨y4, cM, hm⟩ := bnd hm
   have a2 := (cb.kz K7)
   refine qv rfl (Qex (i := a3) Tryz.underlying44 (Qb3).siz rfl a2 rfl cM)<|qv rfl (Qj8 (q := 0) (u := .int .i64 y4) Qb3 rfl a2 cM (by first | rfl | omega) rfl)<|qm rfl<|qm rfl<|Qa1 ?_
   have fc := (cc.kz K7)
   refine qj (β := Bool) (rg 34 22) (fun a5 => [(55, .bool a5)]) (fun a5 wr => (Qio a3 cL a5 = some r) ∧ Kz [] w7 wr) ?_ ?_
   · refine qg 22 rfl<|qm rfl<|qv rfl (Qc9 (a := y4) (b := 0) rfl rfl)<|qp rfl (Qad rfl) (fun c4 => ?_) (fun c4 => ?_)
     · replace hm := iT c4 hm
       refine qk rfl<|qk rfl<|qk rfl<|qk rfl<|qk rfl<|qm rfl<|qm rfl ?_
       refine qk rfl<|qk rfl<|qk rfl<|qk rfl<|qk rfl<|qk rfl<|qk rfl ?_
       refine qk rfl<|qk rfl<|qk rfl<|qk rfl<|qm rfl<|Qa9 ?_
       exact ⟨rfl, true, sbq, hm, kz0⟩
     replace hm := iF c4 hm
     refine qm rfl<|qv rfl (Qa0 Qlq rfl) ?_
     have fd := ((ca.gr G5).kz K7)
     refine qv rfl (Qa2 (v := .int .i64 p1.Depth) Qb3 rfl fd rfl) ?_
     obtain ⟨n6, hn6, hm⟩ := bnd hm
     refine qv rfl (Qrz (a := 1) (b := p1.Depth) rfl rfl hn6)<|qv rfl (Qdy (a := y4) (b := Qvz 1 n6) rfl rfl)<|qm rfl<|qp rfl (Qad rfl) (fun c5 => ?_) (fun c5 => ?_)
     · replace hm := iT c5 hm
       refine qk rfl<|qk rfl<|qk rfl<|qk rfl<|qk rfl<|qk rfl<|qk rfl ?_
       refine qk rfl<|qk rfl<|qk rfl<|qk rfl<|qm rfl<|Qa9 ?_
       exact ⟨rfl, true, sbq, hm, kz0⟩
     replace hm := iF c5 hm
     refine qm rfl<|qv rfl (Qe8 (a := a3) (b := 0) rfl rfl)<|qpF rfl (Qad rfl) (fun c6 => ?_) (fun c6 => ?_)
     · replace hm := iF c6 hm
       refine qk rfl<|qk rfl<|qk rfl<|qk rfl<|qk rfl<|qk rfl<|qk rfl ?_
       refine qm rfl<|qm rfl<|Qa9 ?_
       exact ⟨rfl, false, sbq, hm, kz0⟩
     replace hm := iT c6 hm
     refine qm rfl<|qm rfl<|qm rfl<|qv rfl (Qhm (k := .i64) (a := a3) (b := 1) rfl rfl) ?_
     obtain ⟨y7, cN, hm⟩ := bnd hm
     refine qv rfl (Qex (i := w64 (a3 - 1)) Tryz.underlying44 (Qb3).siz rfl a2 rfl cN)<|qv rfl (Qj8 (q := 0) (u := .int .i64 y7) Qb3 rfl a2 cN (by first | rfl | omega) rfl)<|qv rfl (Qn9 (a := y4) (b := y7) rfl rfl)<|qm rfl<|qm rfl<|Qa9 ?_
     exact ⟨rfl, (decide (y4 ≤ y7)), sbq, hm, kz0⟩
   clear hm; rintro a5 w8 ⟨hm, K8⟩
   unfold Qio at hm
   refine cnF rfl (fun c3 => ?_) (fun c3 => ?_)
   · replace hm := Qc1 c3 hm
     refine Qc5<|Qb1<|Qaz<|qg 2 rfl<|qv rfl (Qc6 (k := .i64) (a := a3) (b := 1) rfl rfl)<|qm rfl<|Qa9 ?_
     have K_24 : Kz [] w5 w8 := (K7.kz K8)
     subst cd
     exact ⟨rfl, ⟨n1, w64 (a3 + 1)⟩, sbq, ⟨hm, K_24⟩, Nat.lt_succ_self _⟩
   replace hm := Qc0 c3 hm
   refine qs 3 rfl<|qv rfl (Qau (cs := Qa8.cs (Qa8.mk [] 0#64 [] k0 k0) (.slice none 0 0) (.slice none 0 0)) Qps rfl (by kernel_rfl)) ?_
   have fe := (((aT.gr G5).kz K7).kz K8)
   refine qe rfl (Qah Qcp rfl rfl (Qa8.cs_ones _ _ _ rfl rfl) fe rfl rfl) ?_
   rintro _ w9 ⟨ff, M9⟩
   refine qm rfl<|Qa1<|Qaf<|Qbl<|Qb2<|Qb2<|Qbl ?_
   refine Qb2 ?_
   have fg := ((fc.kz K8).md M9)
   cases hm
   refine ⟨_, _, rfl, Qbm rfl (Qaq Qcp rfl ff rfl) (Qac rfl), ?_⟩
   exact ⟨(.slice none 0 0), 0, 0, (.slice none 0 0), 0, 0, rfl, (Qaw _ 0 133 18), ⟨.inl rfl⟩, (Qaw _ 0 31 2), ⟨.inl rfl⟩, ⟨(.inl rfl)⟩, fg⟩
 replace hm := iF c2 hm
 refine Qbq<|Qb6<|Qb6<|Qbo<|Qaz<|Qa3<|Qa3 ?_
 refine qg 5 rfl<|qm rfl ?_
 have cO := (cb.kz K7)
 refine qv rfl (Qba (l := p2) (c := ic) Tryz.underlying44 rfl cO)<|qv rfl (Qa0 Qqr rfl) ?_
 have ce := ((ca.gr G5).kz K7)
 refine qv rfl (Qa2 (v := .int .i64 p1.Degree) Qb3 rfl ce rfl)<|qv rfl (Qe8 (a := (p2.length : Int)) (b := p1.Degree) rfl rfl)<|Qa1<|Qal rfl (fun c7 => ?_) (fun c7 => ?_)
 · replace hm := iT c7 hm
   refine qs 3 rfl<|qv rfl (Qau (cs := Qa8.cs (Qa8.mk [] 0#64 [] k0 k0) (.slice none 0 0) (.slice none 0 0)) Qps rfl (by kernel_rfl)) ?_
   have fh := ((aT.gr G5).kz K7)
   refine qe rfl (Qah Qcp rfl rfl (Qa8.cs_ones _ _ _ rfl rfl) fh rfl rfl) ?_
   rintro _ gY ⟨cP, fi⟩
   refine qm rfl<|qb ?_
   have fj := ((cc.kz K7).md fi)
   cases hm
   refine ⟨_, _, rfl, Qbm rfl (Qaq Qcp rfl cP rfl) (Qac rfl), ?_⟩
   exact ⟨(.slice none 0 0), 0, 0, (.slice none 0 0), 0, 0, rfl, (Qaw _ 0 133 18), ⟨.inl rfl⟩, (Qaw _ 0 31 2), ⟨.inl rfl⟩, ⟨(.inl rfl)⟩, fj⟩
 replace hm := iF c7 hm
 refine qu ?_
 have fk := (cc.kz K7)
 refine qj (β := List (BitVec 64) × Nat × Value × Nat × Nat × Nat) ([14, 15] ++ rg 64 6) (fun ⟨a9, bq8, vy10, zy10, gy10, bq11⟩ => [(14, .pointer (some ⟨bq8, 0, none⟩)), (15, .pointer (some ⟨bq11, 0, none⟩))]) (fun ⟨a9, bq8, vy10, zy10, gy10, bq11⟩ wr => (Qor p0 p1 p2 p3 p4 a9 = some r) ∧ Own wr zy10 gy10 24 1 vy10 (a9.map uwc) ∧ Hdn (zy10 = 0 ∨ w7.heap.size ≤ gy10) ∧ Bx wr bq8 161 ([vy10]) ∧ w7.heap.size ≤ bq8 ∧ Bx wr bq11 163 ([wv p1.Group.Q]) ∧ w7.heap.size ≤ bq11 ∧ Hdn (zy10 = 0 ∨ gy10 ≠ bq8) ∧ bq11 ≠ bq8 ∧ Hdn (zy10 = 0 ∨ gy10 ≠ bq11) ∧ Kz [] w7 wr) ?_ ?_
 · refine dw [([])] [] (.fork [(0,10),(1,10),(3,10),(4,10),(5,10)] (.fork [(2,0)] (.leaf [(6,0),(7,0),(8,0),(9,0)]) (.leaf [(7,0),(6,0),(8,0),(9,0)])) (.fork [] (.fork [(6,0)] (.leaf [(2,0),(7,0),(8,0),(9,0)]) (.leaf [(7,0),(2,0),(8,0),(9,0)])) (.fork [(7,0)] (.leaf [(2,0),(6,0),(8,0),(9,0)]) (.leaf [(6,0),(2,0),(8,0),(9,0)])))) ?_
   intro gZ al gp
   refine Qbf ?_
   have Y4 := Gr.trans (Gr.trans G2 Y1) G5
   have cQ := (((b8.gr Y4).kz K7).gr al)
   refine dh 0 rfl rfl (fun w hS => Qa6 Qai rfl (Bx.kp cQ hS) rfl) ?_
   have bF := (ce.gr al)
   refine dh 0 rfl rfl (fun w hS => Qa6 Qcq rfl (Bx.kp bF hS) rfl)<|dh 0 rfl rfl (fun w hS => Qa0 Qjd rfl)<|dh 0 rfl rfl (fun w hS => Qa0 Qlo rfl)<|dh 0 rfl rfl (fun w hS => Qa2 (v := wv p1.Group.Q) Qb7 rfl (Bx.kp bF hS) rfl)<|Qbx ?_ (Qbf (Qbx ?_ ?_))
   · refine Qbf ?_
     obtain ⟨cR, cS, hm⟩ := bnd hm
     refine qz [] rfl (eC Xah rfl (Qho cS)) ⟨fun _ => tk0, trivial⟩ ?_
     rintro B g0 ⟨_, U, V, rfl, H, W, a4⟩
     have gq := a4.size
     have s := H.lth
     refine kG a4<|Qbx ?_ ?_
     · refine Qam<|qz [] rfl (Qaa (cs := [(.slice none 0 0)]) Qw0 rfl) ⟨fun _ => tk0, trivial⟩ ?_
       rintro _ g1 ⟨cf, rfl, fl, bG, cg⟩
       have fm := bG.lt
       refine kG cg<|qz [] rfl (Qaa (cs := [wv 0#64]) Qwg rfl) ⟨fun _ => tk0, trivial⟩ ?_
       rintro _ g2 ⟨ch, rfl, fn, cT, a6⟩
       refine kG a6 ?_
       have cU := (bG.gr a6)
       have bH := ((H.gr cg).gr a6)
       refine qz [(1, cf)] rfl (Qct (cs' := [B]) (Qnt).siz rfl rfl (Own.oneB bH) cU rfl rfl) ⟨fun _ => tk0, trivial⟩ ?_
       rintro _ g3 ⟨cV, a7⟩
       refine kM a7 ?_
       have cW := (cT.md a7)
       refine qz [(1, ch)] rfl (Qct (cs' := [wv p1.Group.Q]) (Qnr).siz rfl rfl rfl cW rfl rfl) ⟨fun _ => tk0, trivial⟩ ?_
       rintro _ fo ⟨cX, a8⟩
       refine kM a8<|Qa9 ?_
       have K_169 : Kz [] w7 fo := ((((((Kz.gr (Kz.refl _ _) al).gr a4).gr cg).gr a6).md a7).md a8)
       have cY := ((bH.md a7 (Qan s)).md a8 (Qan s))
       have cZ := (cV.md a8)
       exact ⟨rfl, ⟨cR, cf, B, U, V, ch⟩, sbq, hm, cY, ⟨(Qbn (A := (fun x => w7.heap.size ≤ x)) W)⟩, cZ, (by omega), cX, (by omega), ⟨(Qki (A := (fun x => x ≠ cf)) s)⟩, (by omega), ⟨(Qki (A := (fun x => x ≠ ch)) s)⟩, K_169⟩
     refine Qam<|qz [] rfl (Qaa (cs := [wv 0#64]) Qwg rfl) ⟨fun _ => tk0, trivial⟩ ?_
     rintro _ g4 ⟨ci, rfl, fp, bI, cj⟩
     have fq := bI.lt
     refine kG cj<|qz [] rfl (Qaa (cs := [(.slice none 0 0)]) Qw0 rfl) ⟨fun _ => tk0, trivial⟩ ?_
     rintro _ g5 ⟨ck, rfl, fr, c0, ba⟩
     refine kG ba ?_
     have bJ := ((H.gr cj).gr ba)
     refine qz [(1, ck)] rfl (Qct (cs' := [B]) (Qnt).siz rfl rfl (Own.oneB bJ) c0 rfl rfl) ⟨fun _ => tk0, trivial⟩ ?_
     rintro _ g6 ⟨da, bb⟩
     refine kM bb ?_
     have db := ((bI.gr ba).md bb)
     refine qz [(1, ci)] rfl (Qct (cs' := [wv p1.Group.Q]) (Qnr).siz rfl rfl rfl db rfl rfl) ⟨fun _ => tk0, trivial⟩ ?_
     rintro _ fs ⟨dc, bc⟩
     refine kM bc<|Qa9 ?_
     have K_180 : Kz [] w7 fs := ((((((Kz.gr (Kz.refl _ _) al).gr a4).gr cj).gr ba).md bb).md bc)
     have dd := ((bJ.md bb (Qan s)).md bc (Qan s))
     have de := (da.md bc)
     exact ⟨rfl, ⟨cR, ck, B, U, V, ci⟩, sbq, hm, dd, ⟨(Qbn (A := (fun x => w7.heap.size ≤ x)) W)⟩, de, (by omega), dc, (by omega), ⟨(Qki (A := (fun x => x ≠ ck)) s)⟩, (by omega), ⟨(Qki (A := (fun x => x ≠ ci)) s)⟩, K_180⟩
   · refine Qbf<|qz [] rfl (Qaa (cs := [(.slice none 0 0)]) Qw0 rfl) ⟨fun _ => tk0, trivial⟩ ?_
     rintro _ g7 ⟨aB, rfl, ft, aU, cl⟩
     have fu := aU.lt
     refine kG cl<|Qbx ?_ ?_
     · refine Qam ?_
       obtain ⟨fv, df, hm⟩ := bnd hm
       refine qz [] rfl (eC Xah rfl (Qho df)) ⟨fun _ => tk0, trivial⟩ ?_
       rintro X g8 ⟨_, aC, aD, rfl, Y, I, bd⟩
       have gs := bd.size
       have aV := Y.lth
       refine kG bd<|qz [] rfl (Qaa (cs := [wv 0#64]) Qwg rfl) ⟨fun _ => tk0, trivial⟩ ?_
       rintro _ g9 ⟨cm, rfl, fw, dg, bf⟩
       refine kG bf ?_
       have di := ((aU.gr bd).gr bf)
       have bK := (Y.gr bf)
       refine qz [(1, aB)] rfl (Qct (cs' := [X]) (Qnt).siz rfl rfl (Own.oneB bK) di rfl rfl) ⟨fun _ => tk0, trivial⟩ ?_
       rintro _ ha ⟨dj, bg⟩
       refine kM bg ?_
       have dk := (dg.md bg)
       refine qz [(1, cm)] rfl (Qct (cs' := [wv p1.Group.Q]) (Qnr).siz rfl rfl rfl dk rfl rfl) ⟨fun _ => tk0, trivial⟩ ?_
       rintro _ fx ⟨dl, bh⟩
       refine kM bh<|Qa9 ?_
       have K_194 : Kz [] w7 fx := ((((((Kz.gr (Kz.refl _ _) al).gr cl).gr bd).gr bf).md bg).md bh)
       have dp := ((bK.md bg (Qca I)).md bh (Qan aV))
       have dq := (dj.md bh)
       exact ⟨rfl, ⟨fv, aB, X, aC, aD, cm⟩, sbq, hm, dp, ⟨(Qbn (A := (fun x => w7.heap.size ≤ x)) I)⟩, dq, (by omega), dl, (by omega), ⟨(Qbn (A := (fun x => x ≠ aB)) I)⟩, (by omega), ⟨(Qki (A := (fun x => x ≠ cm)) aV)⟩, K_194⟩
     refine Qam<|qz [] rfl (Qaa (cs := [wv 0#64]) Qwg rfl) ⟨fun _ => tk0, trivial⟩ ?_
     rintro _ hc ⟨cn, rfl, fy, bL, bi⟩
     have gu := bi.size
     have fz := bL.lt
     refine kG bi ?_
     obtain ⟨fA, dr, hm⟩ := bnd hm
     refine qz [] rfl (eC Xah rfl (Qho dr)) ⟨fun _ => tk0, trivial⟩ ?_
     rintro Z hd ⟨_, aE, aF, rfl, aa, j, bj⟩
     refine kG bj ?_
     have ds := ((aU.gr bi).gr bj)
     refine qz [(1, aB)] rfl (Qct (cs' := [Z]) (Qnt).siz rfl rfl (Own.oneB aa) ds rfl rfl) ⟨fun _ => tk0, trivial⟩ ?_
     rintro _ he ⟨dt, bk⟩
     refine kM bk ?_
     have du := ((bL.gr bj).md bk)
     refine qz [(1, cn)] rfl (Qct (cs' := [wv p1.Group.Q]) (Qnr).siz rfl rfl rfl du rfl rfl) ⟨fun _ => tk0, trivial⟩ ?_
     rintro _ fB ⟨dv, bl⟩
     refine kM bl<|Qa9 ?_
     have K_205 : Kz [] w7 fB := ((((((Kz.gr (Kz.refl _ _) al).gr cl).gr bi).gr bj).md bk).md bl)
     have dy := ((aa.md bk (Qca j)).md bl (Qca j))
     have dz := (dt.md bl)
     exact ⟨rfl, ⟨fA, aB, Z, aE, aF, cn⟩, sbq, hm, dy, ⟨(Qbn (A := (fun x => w7.heap.size ≤ x)) j)⟩, dz, (by omega), dv, (by omega), ⟨(Qbn (A := (fun x => x ≠ aB)) j)⟩, (by omega), ⟨(Qbn (A := (fun x => x ≠ cn)) j)⟩, K_205⟩
   refine Qbf<|qz [] rfl (Qaa (cs := [wv 0#64]) Qwg rfl) ⟨fun _ => tk0, trivial⟩ ?_
   rintro _ hf ⟨aG, rfl, fC, aW, co⟩
   have fD := aW.lt
   refine kG co<|Qbx ?_ ?_
   · refine Qam ?_
     obtain ⟨fE, dA, hm⟩ := bnd hm
     refine qz [] rfl (eC Xah rfl (Qho dA)) ⟨fun _ => tk0, trivial⟩ ?_
     rintro ab hg ⟨_, aH, aI, rfl, ac, J, bm⟩
     have gv := bm.size
     have aX := ac.lth
     refine kG bm<|qz [] rfl (Qaa (cs := [(.slice none 0 0)]) Qw0 rfl) ⟨fun _ => tk0, trivial⟩ ?_
     rintro _ hh ⟨cp, rfl, fF, dB, bn⟩
     refine kG bn ?_
     have bM := (ac.gr bn)
     refine qz [(1, cp)] rfl (Qct (cs' := [ab]) (Qnt).siz rfl rfl (Own.oneB bM) dB rfl rfl) ⟨fun _ => tk0, trivial⟩ ?_
     rintro _ hi ⟨dC, bo⟩
     refine kM bo ?_
     have dD := (((aW.gr bm).gr bn).md bo)
     refine qz [(1, aG)] rfl (Qct (cs' := [wv p1.Group.Q]) (Qnr).siz rfl rfl rfl dD rfl rfl) ⟨fun _ => tk0, trivial⟩ ?_
     rintro _ fG ⟨dE, bp⟩
     refine kM bp<|Qa9 ?_
     have K_218 : Kz [] w7 fG := ((((((Kz.gr (Kz.refl _ _) al).gr co).gr bm).gr bn).md bo).md bp)
     have dF := ((bM.md bo (Qan aX)).md bp (Qca J))
     have dG := (dC.md bp)
     exact ⟨rfl, ⟨fE, cp, ab, aH, aI, aG⟩, sbq, hm, dF, ⟨(Qbn (A := (fun x => w7.heap.size ≤ x)) J)⟩, dG, (by omega), dE, (by omega), ⟨(Qki (A := (fun x => x ≠ cp)) aX)⟩, (by omega), ⟨(Qbn (A := (fun x => x ≠ aG)) J)⟩, K_218⟩
   refine Qam<|qz [] rfl (Qaa (cs := [(.slice none 0 0)]) Qw0 rfl) ⟨fun _ => tk0, trivial⟩ ?_
   rintro _ hj ⟨cq, rfl, fH, bN, bq⟩
   have gw := bq.size
   have fI := bN.lt
   refine kG bq ?_
   obtain ⟨fJ, dH, hm⟩ := bnd hm
   refine qz [] rfl (eC Xah rfl (Qho dH)) ⟨fun _ => tk0, trivial⟩ ?_
   rintro ad hk ⟨_, aJ, aK, rfl, ae, n, br⟩
   refine kG br ?_
   have dI := (bN.gr br)
   refine qz [(1, cq)] rfl (Qct (cs' := [ad]) (Qnt).siz rfl rfl (Own.oneB ae) dI rfl rfl) ⟨fun _ => tk0, trivial⟩ ?_
   rintro _ hl ⟨dJ, bs⟩
   refine kM bs ?_
   have dK := (((aW.gr bq).gr br).md bs)
   refine qz [(1, aG)] rfl (Qct (cs' := [wv p1.Group.Q]) (Qnr).siz rfl rfl rfl dK rfl rfl) ⟨fun _ => tk0, trivial⟩ ?_
   rintro _ fK ⟨dL, bu⟩
   refine kM bu<|Qa9 ?_
   have K_229 : Kz [] w7 fK := ((((((Kz.gr (Kz.refl _ _) al).gr co).gr bq).gr br).md bs).md bu)
   have dM := ((ae.md bs (Qca n)).md bu (Qca n))
   have dN := (dJ.md bu)
   exact ⟨rfl, ⟨fJ, cq, ad, aJ, aK, aG⟩, sbq, hm, dM, ⟨(Qbn (A := (fun x => w7.heap.size ≤ x)) n)⟩, dN, (by omega), dL, (by omega), ⟨(Qbn (A := (fun x => x ≠ cq)) n)⟩, (by omega), ⟨(Qbn (A := (fun x => x ≠ aG)) n)⟩, K_229⟩
 clear hm; rintro ⟨a9, bq8, vy10, zy10, gy10, bq11⟩ hn ⟨hm, ar, e1, M, e2, N, e3, e4, e5, e6, ao⟩
 have t := ar.lth
 have gx := M.lt
 have gy := N.lt
 unfold Qor at hm
 refine Qa3<|dw [([])] [] (.leaf [(0,10),(1,10),(3,10),(4,10),(5,10),(6,10),(2,0),(7,0),(8,10),(9,10)]) ?_
 intro fL cr gz
 refine Qam ?_
 have Y5 := Gr.trans (Gr.trans G2 Y1) G5
 have fM := ((((b8.gr Y5).kz K7).kz ao).gr cr)
 refine dh 0 rfl rfl (fun w hS => Qa6 Qai rfl (Bx.kp fM hS) rfl)<|dm 0 rfl rfl<|dh 0 rfl rfl (fun w hS => Qa0 Qjd rfl)<|dh 0 rfl rfl (fun w hS => Qa0 Qlo rfl) ?_
 have bw := ((ce.kz ao).gr cr)
 refine dh 0 rfl rfl (fun w hS => Qa2 (v := wv p1.Group.Q) Qb7 rfl (Bx.kp bw hS) rfl)<|dh 0 rfl rfl (fun w hS => Quv (a := p1.Group.Q) (b := 1#64) rfl rfl)<|qz [] rfl (eC Qnl rfl (Qei p0 (un8 41#8) (Qhb _) (Qhf _) p4 _)) ⟨fun _ => tk0, trivial⟩ ?_
 rintro _ ho ⟨rfl, ct⟩
 have hp := ct.size
 refine kG ct ?_
 obtain ⟨fN, dO, hm⟩ := bnd hm
 refine qz [] rfl (eC Xgo rfl (Qpa dO)) ⟨fun _ => tk0, trivial⟩ ?_
 rintro _ bx ⟨rfl, cu⟩
 have hq := cu.size
 refine kG cu ?_
 have Y6 := Gr.trans ct cu
 have dP := ((Kp.refl ([]) fL).gr Y6)
 refine qh 0 rfl rfl dP (fun w hS => Qrw (a := 1#64) (b := fN) rfl rfl)<|dn 0 rfl rfl dP<|Qa1 ?_
 have Y7 := Gr.trans cr Y6
 have fO := ((fk.kz ao).trans Y7)
 refine qj (β := BitVec 64 × Nat × Value × Nat × Nat × Value × Nat × Nat) ([17] ++ rg 79 9) (fun ⟨K, bq13, vy15, zy15, gy15, vy16, zy16, gy16⟩ => [(17, .pointer (some ⟨bq13, 0, none⟩))]) (fun ⟨K, bq13, vy15, zy15, gy15, vy16, zy16, gy16⟩ wr => (Qon p1 p2 p3 a9 K = some r) ∧ Own wr zy15 gy15 133 18 vy15 ([].map Qbd.cs) ∧ Hdn (zy15 = 0 ∨ bx.heap.size ≤ gy15) ∧ Own wr zy16 gy16 31 2 vy16 ([].map Qag.cs) ∧ Hdn (zy16 = 0 ∨ bx.heap.size ≤ gy16) ∧ Bx wr bq13 48 (Qa8.cs (Qa8.mk [] K [] k0 (drv p3 (un8 53#8) 0#64)) vy15 vy16) ∧ bx.heap.size ≤ bq13 ∧ Hdn (zy16 = 0 ∨ zy15 = 0 ∨ gy16 ≠ gy15) ∧ Hdn (zy15 = 0 ∨ gy15 ≠ bq13) ∧ Hdn (zy16 = 0 ∨ gy16 ≠ bq13) ∧ Kz [] bx wr) ?_ ?_
 · refine dw [([])] [] (.fork [(0,10),(1,10),(2,10),(3,10),(4,10),(6,10)] (.fork [(5,0)] (.leaf [(7,0),(8,10),(9,0),(10,0)]) (.leaf [(9,0),(7,0),(8,10),(10,0)])) (.leaf [(9,0),(5,0),(7,0),(8,10),(10,0)])) ?_
   intro cv aY gA
   refine Qbf ?_
   have bO := ((bw.gr Y6).gr aY)
   refine dh 0 rfl rfl (fun w hS => Qa6 Qcq rfl (Bx.kp bO hS) rfl)<|dh 0 rfl rfl (fun w hS => Qa0 Qjd rfl)<|dh 0 rfl rfl (fun w hS => Qa0 Qvn rfl)<|dh 0 rfl rfl (fun w hS => Qa2 (v := wv p1.Group.G) Qb7 rfl (Bx.kp bO hS) rfl)<|dm 0 rfl rfl ?_
   have Y8 := Gr.trans G4 G5
   have dQ := (((((b9.gr Y8).kz K7).kz ao).gr Y7).gr aY)
   refine dh 0 rfl rfl (fun w hS => Qa6 Qai rfl (Bx.kp dQ hS) rfl)<|Qbx ?_ ?_
   · refine Qbf ?_
     obtain ⟨bz, dR, hm⟩ := bnd hm
     refine qz [] rfl (eC Qx8 rfl (Qkb dR)) ⟨fun _ => tk0, trivial⟩ ?_
     rintro _ hr ⟨rfl, aL⟩
     have gB := aL.size
     refine kG aL<|Qbx ?_ ?_
     · refine Qam<|qz [] rfl (eC Qnl rfl (Qei p3 (un8 53#8) (Qhb _) (Qhf _) 0#64 _)) ⟨fun _ => tk0, trivial⟩ ?_
       rintro _ ht ⟨rfl, bA⟩
       have gC := bA.size
       refine kG bA ?_
       have dS := (((Kp.refl ([]) cv).gr aL).gr bA)
       refine qh 0 rfl rfl dS (fun w hS => Qau (cs := Qa8.cs (Qa8.mk [] bz [] k0 (drv p3 (un8 53#8) 0#64)) (.slice none 0 0) (.slice none 0 0)) Qps rfl (by obtain ⟨cw, ap⟩ := Qyg (drv p3 (un8 53#8) 0#64); rw [← ap]; exact (Qi4 rfl rfl rfl (Qi4 rfl rfl rfl (by kernel_rfl)))))<|qz [] rfl (Qaa (cs := Qa8.cs (Qa8.mk [] 0#64 [] k0 k0) (.slice none 0 0) (.slice none 0 0)) Qtd rfl) ⟨fun _ => tk0, trivial⟩ ?_
       rintro _ hu ⟨dT, rfl, fP, dU, dV⟩
       refine kG dV<|qz [(1, dT)] rfl (Qah Qcp rfl rfl (Qa8.cs_ones _ _ _ rfl rfl) dU rfl rfl) ⟨fun _ => tk0, trivial⟩ ?_
       rintro _ hw ⟨dW, dX⟩
       refine kM dX<|Qa9 ?_
       exact ⟨rfl, ⟨bz, dT, (.slice none 0 0), 0, 0, (.slice none 0 0), 0, 0⟩, sbq, hm, (Qaw _ 0 133 18), ⟨(.inl rfl)⟩, (Qaw _ 0 31 2), ⟨(.inl rfl)⟩, dW, (by omega), ⟨(.inl rfl)⟩, ⟨.inl rfl⟩, ⟨.inl rfl⟩, (((((kz0.gr aY).gr aL).gr bA).gr dV).md dX)⟩
     refine Qam<|qz [] rfl (Qaa (cs := Qa8.cs (Qa8.mk [] 0#64 [] k0 k0) (.slice none 0 0) (.slice none 0 0)) Qtd rfl) ⟨fun _ => tk0, trivial⟩ ?_
     rintro _ hy ⟨dY, rfl, fQ, dZ, cx⟩
     refine kG cx<|qz [] rfl (eC Qnl rfl (Qei p3 (un8 53#8) (Qhb _) (Qhf _) 0#64 _)) ⟨fun _ => tk0, trivial⟩ ?_
     rintro _ hz ⟨rfl, bB⟩
     refine kG bB ?_
     have d0 := ((((Kp.refl ([]) cv).gr aL).gr cx).gr bB)
     refine qh 0 rfl rfl d0 (fun w hS => Qau (cs := Qa8.cs (Qa8.mk [] bz [] k0 (drv p3 (un8 53#8) 0#64)) (.slice none 0 0) (.slice none 0 0)) Qps rfl (by obtain ⟨cw, ap⟩ := Qyg (drv p3 (un8 53#8) 0#64); rw [← ap]; exact (Qi4 rfl rfl rfl (Qi4 rfl rfl rfl (by kernel_rfl))))) ?_
     have d1 := (dZ.gr bB)
     refine qz [(1, dY)] rfl (Qah Qcp rfl rfl (Qa8.cs_ones _ _ _ rfl rfl) d1 rfl rfl) ⟨fun _ => tk0, trivial⟩ ?_
     rintro _ hA ⟨d2, d3⟩
     refine kM d3<|Qa9 ?_
     exact ⟨rfl, ⟨bz, dY, (.slice none 0 0), 0, 0, (.slice none 0 0), 0, 0⟩, sbq, hm, (Qaw _ 0 133 18), ⟨(.inl rfl)⟩, (Qaw _ 0 31 2), ⟨(.inl rfl)⟩, d2, (by omega), ⟨(.inl rfl)⟩, ⟨.inl rfl⟩, ⟨.inl rfl⟩, (((((kz0.gr aY).gr aL).gr cx).gr bB).md d3)⟩
   refine Qam<|qz [] rfl (Qaa (cs := Qa8.cs (Qa8.mk [] 0#64 [] k0 k0) (.slice none 0 0) (.slice none 0 0)) Qtd rfl) ⟨fun _ => tk0, trivial⟩ ?_
   rintro _ hB ⟨d4, rfl, fR, d5, cy⟩
   refine kG cy ?_
   obtain ⟨d6, d7, hm⟩ := bnd hm
   refine qz [] rfl (eC Qx8 rfl (Qkb d7)) ⟨fun _ => tk0, trivial⟩ ?_
   rintro _ hC ⟨rfl, bC⟩
   refine kG bC<|qz [] rfl (eC Qnl rfl (Qei p3 (un8 53#8) (Qhb _) (Qhf _) 0#64 _)) ⟨fun _ => tk0, trivial⟩ ?_
   rintro _ hD ⟨rfl, bD⟩
   refine kG bD ?_
   have d8 := ((((Kp.refl ([]) cv).gr cy).gr bC).gr bD)
   refine qh 0 rfl rfl d8 (fun w hS => Qau (cs := Qa8.cs (Qa8.mk [] d6 [] k0 (drv p3 (un8 53#8) 0#64)) (.slice none 0 0) (.slice none 0 0)) Qps rfl (by obtain ⟨cw, ap⟩ := Qyg (drv p3 (un8 53#8) 0#64); rw [← ap]; exact (Qi4 rfl rfl rfl (Qi4 rfl rfl rfl (by kernel_rfl))))) ?_
   have d9 := ((d5.gr bC).gr bD)
   refine qz [(1, d4)] rfl (Qah Qcp rfl rfl (Qa8.cs_ones _ _ _ rfl rfl) d9 rfl rfl) ⟨fun _ => tk0, trivial⟩ ?_
   rintro _ hE ⟨ea, eb⟩
   refine kM eb<|Qa9 ?_
   exact ⟨rfl, ⟨d6, d4, (.slice none 0 0), 0, 0, (.slice none 0 0), 0, 0⟩, sbq, hm, (Qaw _ 0 133 18), ⟨(.inl rfl)⟩, (Qaw _ 0 31 2), ⟨(.inl rfl)⟩, ea, (by omega), ⟨(.inl rfl)⟩, ⟨.inl rfl⟩, ⟨.inl rfl⟩, (((((kz0.gr aY).gr cy).gr bC).gr bD).md eb)⟩
 clear hm; rintro ⟨K, bq13, vy15, zy15, gy15, vy16, zy16, gy16⟩ hF ⟨hm, au, av, aw, f, ax, e7, D, E, p, F⟩
 have hG := F.size
 have am := au.lth
 have L := aw.lth
 have gD := ax.lt
 unfold Qon at hm
 refine qs 3 rfl<|qv rfl (Qdf rfl rfl)<|qe rfl (Qaa Xkj rfl) ?_
 rintro _ hH ⟨aq, rfl, fS, bP, y⟩
 have hI := y.size
 have gE := bP.lt
 refine qe rfl (Qct (Qve).siz rfl rfl rfl bP rfl rfl) ?_
 rintro _ aM ⟨aZ, z⟩
 have hJ := z.size
 refine qd 2 rfl<|qv rfl (Qdf rfl rfl)<|qm rfl<|Qa1<|Qa3 ?_
 refine qs 3 rfl<|qm rfl ?_
 have ec := (((((cO.kz ao).gr Y7).kz F).gr y).md z (Qan b7))
 refine qv rfl (Qba (l := p2) (c := ic) Tryz.underlying44 rfl ec)<|qm rfl<|Qa1<|Qao ?_
 have fT := (((fO.kz F).trans y).md z)
 have ed := ((((ar.gr Y7).kz F).gr y).md z (Qan t))
 have ee := ((au.gr y).md z (Qan am))
 have fU := ((aw.gr y).md z (Qan L))
 have fV := ((ax.gr y).md z)
 refine Qbk (α := Nat × Int × List Qag × Value × Nat × Nat) ([21] ++ rg 92 9) (fun ⟨n5, af, an, vy22, zy22, gy22⟩ => [(92, .int .i64 af)]) (fun ⟨n5, af, an, vy22, zy22, gy22⟩ wr => (Qcr (Qmd p1 p2 p3 a9 K) n5 (af, an) = some r) ∧ Own wr zy22 gy22 31 2 vy22 (an.map Qag.cs) ∧ Hdn (zy22 = 0 ∨ (gy22 = gy16 ∧ zy16 ≠ 0) ∨ aM.heap.size ≤ gy22) ∧ Bx wr bq13 48 (Qa8.cs (Qa8.mk [] K an k0 (drv p3 (un8 53#8) 0#64)) vy15 vy22) ∧ Kz [(1, bq13), (zy16, gy16)] aM wr) (fun ⟨n5, af, an, vy22, zy22, gy22⟩ => n5) ⟨Qdn, 0, [], vy16, zy16, gy16⟩ ?_ ?_ ?_
 · exact sbq
 · exact ⟨hm, fU, ⟨tk0⟩, fV, Kz.refl _ _⟩
 clear hm; rintro ⟨n5, af, an, vy22, zy22, gy22⟩ aN ⟨hm, ay, d, ag, h⟩
 have hK := h.size
 have gF := ag.lt
 have hb := Qbt hm; clear hm; obtain ⟨n5, rfl, hm⟩ := hb
 generalize cz : Qcr (Qmd p1 p2 p3 a9 K) n5 = gG at hm
 unfold Qmd at hm
 try dsimp only at hm
 refine qs 1 rfl<|qv rfl (Qc9 (a := af) (b := (p2.length : Int)) rfl rfl)<|Qa1<|Qa3<|Qal rfl (fun c8 => ?_) (fun c8 => ?_)
 · replace hm := iT c8 hm
   refine qu<|Qa3<|Qao<|qs 3 rfl ?_
   obtain ⟨a0, bQ, hm⟩ := bnd hm
   have ef := (ec.kz h (tk2 ((Qgb (Qbn (A := (fun x => zp2 = 0 ∨ x ≠ gp2)) f (fun x hx => (tk1 b7.o)))) : zp2 = 0 ∨ zy16 = 0 ∨ gp2 ≠ gy16) (Qan (b := bq13) b7)))
   refine qv rfl (Qex (i := af) Tryz.underlying44 (Qb3).siz rfl ef rfl bQ)<|qv rfl (Qj8 (q := 0) (u := .int .i64 a0) Qb3 rfl ef bQ (by first | rfl | omega) rfl)<|qm rfl<|Qa1<|qg 4 rfl<|qm rfl<|qm rfl ?_
   refine qv rfl (Qc6 (k := .i64) (a := a0) (b := 1) rfl rfl)<|Qr3 16 Tryz.func104 rfl rfl rfl Xg0 rfl rfl rfl rfl rfl<|dw [([bq13] ++ zf zy22 gy22),([] ++ zf zy22 gy22)] [(12, [1])] (.leaf [(0,10),(1,11),(2,10),(3,10),(4,10),(5,10),(6,10),(7,0),(8,10),(9,0),(10,0),(11,10),(12,0)]) ?_
   intro O ah gH
   refine Qam<|qh 0 rfl rfl (Kp.refl ([bq13] ++ zf zy22 gy22) O) (fun w hS => Qa0 Qee rfl) ?_
   have cA := (ag.gr ah)
   refine qh 1 rfl rfl (Kp.refl ([] ++ zf zy22 gy22) O) (fun w hS => Qa2 (v := vy22) Qg3 rfl (Bx.kp cA hS (tk1 (Qas (b := bq13) d (tk1 p.o)))) rfl)<|dn 0 rfl rfl (Kp.refl ([bq13] ++ zf zy22 gy22) O)<|qh 0 rfl rfl (Kp.refl ([bq13] ++ zf zy22 gy22) O) (fun w hS => Qer Qf5 rfl) ?_
   have fW := ((aZ.kz h (tk1 (Qan (b := aq) L))).gr ah)
   refine qh 0 rfl rfl (Kp.refl ([bq13] ++ zf zy22 gy22) O) (fun w hS => Qa2 Qve rfl (Bx.kp fW hS (tk1 (Qas (b := aq) d (Qan L)))) rfl)<|dn 0 rfl rfl (Kp.refl ([bq13] ++ zf zy22 gy22) O)<|qh 0 rfl rfl (Kp.refl ([bq13] ++ zf zy22 gy22) O) (fun w hS => Qer Qf5 rfl) ?_
   have fX := ((((((bw.gr Y6).kz F).gr y).md z).kz h (tk1 (Qca (b := b2) f))).gr ah)
   have fY := ((ee.kz h (tk2 ((tk1 D.o) : zy15 = 0 ∨ zy16 = 0 ∨ gy15 ≠ gy16) ((tk1 E.o) : zy15 = 0 ∨ gy15 ≠ bq13))).gr ah)
   have eg := (ay.gr ah)
   have fZ := ((((((M.gr Y7).kz F).gr y).md z).kz h (tk1 (Qca (b := bq8) f))).gr ah)
   have f0 := ((ed.kz h (tk2 ((Qgb (Qbn (A := (fun x => zy10 = 0 ∨ x ≠ gy10)) f (fun x hx => (tk1 t.o)))) : zy10 = 0 ∨ zy16 = 0 ∨ gy10 ≠ gy16) (Qan (b := bq13) t))).gr ah)
   have f1 := ((((((N.gr Y7).kz F).gr y).md z).kz h (tk1 (Qca (b := bq11) f))).gr ah)
   obtain ⟨cB, eh, hm⟩ := bnd hm
   refine qz [] rfl (Qcn Xdj rfl rfl (Qo2 eh fX cA (Own.rd fY) (Own.rd eg) fZ (Own.rd f0) f1)) ⟨fun _ => tk0, fun _ => tk0, trivial⟩ ?_
   rintro _ hL ⟨rfl, aO⟩
   have hM := aO.size
   refine kG aO ?_
   have ei := ((Kp.refl ([bq13] ++ zf zy22 gy22) O).gr aO)
   refine qh 0 rfl rfl ei (fun w hS => Qau (cs := Qag.cs (Qag.mk (wd (w64 (a0 + 1))) cB)) Xam rfl rfl)<|qz [] rfl (Qcx [(Qag.mk (wd (w64 (a0 + 1))) cB)] Qag.cs Qnw rfl rfl (Qh6 rfl) rfl rfl rfl) ⟨fun _ => tk0, fun _ => tk0, trivial⟩ ?_
   rintro gI hN ⟨gJ, f2, ej, aP⟩
   have hO := aP.size
   refine kG aP ?_
   have f3 := ((eg.gr aO).gr aP)
   obtain ⟨ek, el, hm⟩ := bnd hm
   refine qz [(zy22, gy22)] rfl (Qfn (l := an) (m := [(Qag.mk (wd (w64 (a0 + 1))) cB)]) (c := Qag.cs) Qsc rfl rfl f3 (Own.rd ej) el (by decide)) ⟨fun _ => (tk1 (tk0 : zy22 = 0 ∨ (gy22 = gy22 ∧ zy22 ≠ 0) ∨ O.heap.size ≤ gy22)), fun _ => (tk1 (tk0 : zy22 = 0 ∨ (gy22 = gy22 ∧ zy22 ≠ 0) ∨ O.heap.size ≤ gy22)), trivial⟩ ?_
   rintro bR hP ⟨em, en, bS, az, gK, bT⟩
   refine ⟨Kz.ofKa az, ?_⟩
   have f4 := ((ei.gr aP).ka az (tk1 (tk0 : zy22 = 0 ∨ (gy22 = gy22 ∧ zy22 ≠ 0) ∨ O.heap.size ≤ gy22)))
   refine qh 0 rfl rfl f4 (fun w hS => Qa0 Qee rfl) ?_
   have f5 := (((cA.gr aO).gr aP).ka az (tk1 (Qas (b := bq13) d (tk1 p.o))))
   refine qz [(1, bq13)] rfl (Qct (cs' := Qa8.cs (Qa8.mk [] K ek k0 (drv p3 (un8 53#8) 0#64)) vy15 bR) (Qg3).siz rfl rfl (Own.oneB bS) f5 rfl rfl) ⟨fun _ => tk0, nofun, trivial⟩ ?_
   rintro _ f6 ⟨eo, cC⟩
   refine kM cC<|Qa9<|⟨_, _, rfl, Qgk rfl, ?_⟩
   refine Qa9<|Qb1<|Qaz<|qg 2 rfl<|qv rfl (Qc6 (k := .i64) (a := af) (b := 1) rfl rfl)<|qm rfl<|Qa9 ?_
   have K_80 : Kz [(1, bq13), (zy16, gy16)] aM f6 := (((((h.gr ah).gr aO).gr aP).ka az (tk1 (Qbw (A := (fun x => (x = gy16 ∧ zy16 ≠ 0) ∨ aM.heap.size ≤ x)) d tk0))).md cC)
   have f7 := (bS.md cC (Qtz bT (Qas d (tk1 p.o))))
   subst cz
   exact ⟨rfl, ⟨n5, w64 (af + 1), ek, bR, em, en⟩, sbq, ⟨hm, f7, ⟨(Qg4 (A := (fun x => (x = gy16 ∧ zy16 ≠ 0) ∨ aM.heap.size ≤ x)) bT (Qbw (A := (fun x => (x = gy16 ∧ zy16 ≠ 0) ∨ aM.heap.size ≤ x)) d tk0))⟩, eo, K_80⟩, Nat.lt_succ_self _⟩
 replace hm := iF c8 hm
 refine Qbq<|Qb6<|Qb6<|Qbo<|Qaz<|Qa3<|Qa3 ?_
 refine qg 5 rfl<|qv rfl (Qa0 Qlq rfl) ?_
 have ep := (((((bw.gr Y6).kz F).gr y).md z).kz h (tk1 (Qca (b := b2) f)))
 refine qv rfl (Qa2 (v := .int .i64 p1.Depth) Qb3 rfl ep rfl) ?_
 obtain ⟨er, hn26, hm⟩ := bnd hm
 refine qv rfl (Qrz (a := 1) (b := p1.Depth) rfl rfl hn26)<|qv rfl (Qc6 (k := .i64) (a := Qvz 1 er) (b := 1) rfl rfl)<|qm rfl<|Qa1<|Qao ?_
 have f8 := (fT.kz h (tk1 (Qbn (A := (fun x => w.heap.size ≤ x)) f)))
 have es := (ed.kz h (tk2 ((Qgb (Qbn (A := (fun x => zy10 = 0 ∨ x ≠ gy10)) f (fun x hx => (tk1 t.o)))) : zy10 = 0 ∨ zy16 = 0 ∨ gy10 ≠ gy16) (Qan (b := bq13) t)))
 have et := (ee.kz h (tk2 ((tk1 D.o) : zy15 = 0 ∨ zy16 = 0 ∨ gy15 ≠ gy16) ((tk1 E.o) : zy15 = 0 ∨ gy15 ≠ bq13)))
 refine Qbk (α := Nat × Int × List Qag × Value × Nat × Nat) ([22] ++ rg 105 11) (fun ⟨n6, S, T, vy32, zy32, gy32⟩ => [(22, .int .i64 S)]) (fun ⟨n6, S, T, vy32, zy32, gy32⟩ wr => (Qcr (Qmb p1 p3 a9 K) n6 (S, T) = some r) ∧ Own wr zy32 gy32 31 2 vy32 (T.map Qag.cs) ∧ Hdn (zy32 = 0 ∨ (gy32 = gy22 ∧ zy22 ≠ 0) ∨ aN.heap.size ≤ gy32) ∧ Bx wr bq13 48 (Qa8.cs (Qa8.mk [] K T k0 (drv p3 (un8 53#8) 0#64)) vy15 vy32) ∧ Kz [(1, bq13), (zy22, gy22)] aN wr) (fun ⟨n6, S, T, vy32, zy32, gy32⟩ => n6) ⟨Qdn, w64 ((Qvz 1 er) + 1), an, vy22, zy22, gy22⟩ ?_ ?_ ?_
 · exact sbq
 · exact ⟨hm, ay, ⟨tk0⟩, ag, Kz.refl _ _⟩
 clear hm; rintro ⟨n6, S, T, vy32, zy32, gy32⟩ hQ ⟨hm, ai, g, aj, C⟩
 have hR := C.size
 have hb := Qbt hm; clear hm; obtain ⟨n6, rfl, hm⟩ := hb
 generalize cD : Qcr (Qmb p1 p3 a9 K) n6 = gL at hm
 unfold Qmb at hm
 try dsimp only at hm
 refine Qa3<|qs 6 rfl<|qv rfl (Qa0 Qee rfl)<|qv rfl (Qa2 (v := vy32) Qg3 rfl aj rfl)<|qv rfl (Qba (l := T) (c := Qag.cs) Tryz.underlying46 rfl (Own.rd ai))<|qv rfl (Qa0 Qqr rfl) ?_
 have cE := (ep.kz C (tk1 (Qas (b := b2) d (Qca f))))
 refine qv rfl (Qa2 (v := .int .i64 p1.Degree) Qb3 rfl cE rfl)<|qv rfl (Qc9 (a := (T.length : Int)) (b := p1.Degree) rfl rfl)<|Qa1<|Qal rfl (fun c9 => ?_) (fun c9 => ?_)
 · replace hm := iT c9 hm
   refine qu<|Qa3<|Qao<|qg 3 rfl<|qm rfl<|qm rfl ?_
   refine Qr3 16 Tryz.func104 rfl rfl rfl Xg0 rfl rfl rfl rfl rfl<|dw [([bq13] ++ zf zy32 gy32),([] ++ zf zy32 gy32)] [(12, [1])] (.leaf [(0,10),(1,11),(2,10),(3,10),(4,10),(5,10),(6,10),(7,0),(8,10),(9,0),(10,0),(11,10),(12,0)]) ?_
   intro P ak gM
   refine Qam<|qh 0 rfl rfl (Kp.refl ([bq13] ++ zf zy32 gy32) P) (fun w hS => Qa0 Qee rfl) ?_
   have cF := (aj.gr ak)
   refine qh 1 rfl rfl (Kp.refl ([] ++ zf zy32 gy32) P) (fun w hS => Qa2 (v := vy32) Qg3 rfl (Bx.kp cF hS (tk1 (Qas (b := bq13) g (Qas d (tk1 p.o))))) rfl)<|dn 0 rfl rfl (Kp.refl ([bq13] ++ zf zy32 gy32) P)<|qh 0 rfl rfl (Kp.refl ([bq13] ++ zf zy32 gy32) P) (fun w hS => Qer Qf5 rfl) ?_
   have f9 := (((aZ.kz h (tk1 (Qan (b := aq) L))).kz C (tk1 (Qas (b := aq) d (Qan L)))).gr ak)
   refine qh 0 rfl rfl (Kp.refl ([bq13] ++ zf zy32 gy32) P) (fun w hS => Qa2 Qve rfl (Bx.kp f9 hS (tk1 (Qas (b := aq) g (Qas d (Qan L))))) rfl)<|dn 0 rfl rfl (Kp.refl ([bq13] ++ zf zy32 gy32) P)<|qh 0 rfl rfl (Kp.refl ([bq13] ++ zf zy32 gy32) P) (fun w hS => Qer Qf5 rfl) ?_
   have ga := (cE.gr ak)
   have gb := ((et.kz C (tk2 ((Qgb (Qbw (A := (fun x => zy15 = 0 ∨ x ≠ gy15)) d (tk1 D.o) (fun x hx => (tk1 am.o)))) : zy15 = 0 ∨ zy22 = 0 ∨ gy15 ≠ gy22) ((tk1 E.o) : zy15 = 0 ∨ gy15 ≠ bq13))).gr ak)
   have eu := (ai.gr ak)
   have gc := (((((((M.gr Y7).kz F).gr y).md z).kz h (tk1 (Qca (b := bq8) f))).kz C (tk1 (Qas (b := bq8) d (Qca f)))).gr ak)
   have gf := ((es.kz C (tk2 ((Qgb (Qbw (A := (fun x => zy10 = 0 ∨ x ≠ gy10)) d (Qbn (A := (fun x => zy10 = 0 ∨ x ≠ gy10)) f (fun x hx => (tk1 t.o))) (fun x hx => (tk1 t.o)))) : zy10 = 0 ∨ zy22 = 0 ∨ gy10 ≠ gy22) (Qan (b := bq13) t))).gr ak)
   have gg := (((((((N.gr Y7).kz F).gr y).md z).kz h (tk1 (Qca (b := bq11) f))).kz C (tk1 (Qas (b := bq11) d (Qca f)))).gr ak)
   obtain ⟨cG, ew, hm⟩ := bnd hm
   refine qz [] rfl (Qcn Xdj rfl rfl (Qo2 ew ga cF (Own.rd gb) (Own.rd eu) gc (Own.rd gf) gg)) ⟨fun _ => tk0, fun _ => tk0, trivial⟩ ?_
   rintro _ hT ⟨rfl, aQ⟩
   have hU := aQ.size
   refine kG aQ ?_
   have bU := ((Kp.refl ([bq13] ++ zf zy32 gy32) P).gr aQ)
   refine qh 0 rfl rfl bU (fun w hS => Qau (cs := Qag.cs (Qag.mk (wd S) cG)) Xam rfl rfl)<|qz [] rfl (Qcx [(Qag.mk (wd S) cG)] Qag.cs Qnw rfl rfl (Qh6 rfl) rfl rfl rfl) ⟨fun _ => tk0, fun _ => tk0, trivial⟩ ?_
   rintro gN hV ⟨gO, gh, ex, aR⟩
   have gP := aR.size
   refine kG aR ?_
   have ey := ((eu.gr aQ).gr aR)
   obtain ⟨ez, eA, hm⟩ := bnd hm
   refine qz [(zy32, gy32)] rfl (Qfn (l := T) (m := [(Qag.mk (wd S) cG)]) (c := Qag.cs) Qsc rfl rfl ey (Own.rd ex) eA (by decide)) ⟨fun _ => (tk1 (tk0 : zy32 = 0 ∨ (gy32 = gy32 ∧ zy32 ≠ 0) ∨ P.heap.size ≤ gy32)), fun _ => (tk1 (tk0 : zy32 = 0 ∨ (gy32 = gy32 ∧ zy32 ≠ 0) ∨ P.heap.size ≤ gy32)), trivial⟩ ?_
   rintro bV hW ⟨eB, eD, bW, aA, gQ, bX⟩
   refine ⟨Kz.ofKa aA, ?_⟩
   have eE := ((bU.gr aR).ka aA (tk1 (tk0 : zy32 = 0 ∨ (gy32 = gy32 ∧ zy32 ≠ 0) ∨ P.heap.size ≤ gy32)))
   refine qh 0 rfl rfl eE (fun w hS => Qa0 Qee rfl) ?_
   have eF := (((cF.gr aQ).gr aR).ka aA (tk1 (Qas (b := bq13) g (Qas d (tk1 p.o)))))
   refine qz [(1, bq13)] rfl (Qct (cs' := Qa8.cs (Qa8.mk [] K ez k0 (drv p3 (un8 53#8) 0#64)) vy15 bV) (Qg3).siz rfl rfl (Own.oneB bW) eF rfl rfl) ⟨fun _ => tk0, nofun, trivial⟩ ?_
   rintro _ gi ⟨eG, cH⟩
   refine kM cH<|Qa9<|⟨_, _, rfl, Qgk rfl, ?_⟩
   refine Qa9<|Qb1<|Qaz<|qg 3 rfl<|qm rfl<|qv rfl (Qc6 (k := .i64) (a := S) (b := 1) rfl rfl)<|qm rfl ?_
   refine Qa9 ?_
   have K_108 : Kz [(1, bq13), (zy22, gy22)] aN gi := (((((C.gr ak).gr aQ).gr aR).ka aA (tk1 (Qbw (A := (fun x => (x = gy22 ∧ zy22 ≠ 0) ∨ aN.heap.size ≤ x)) g tk0))).md cH)
   have eH := (bW.md cH (Qtz bX (Qas g (Qas d (tk1 p.o)))))
   subst cD
   exact ⟨rfl, ⟨n6, w64 (S + 1), ez, bV, eB, eD⟩, sbq, ⟨hm, eH, ⟨(Qg4 (A := (fun x => (x = gy22 ∧ zy22 ≠ 0) ∨ aN.heap.size ≤ x)) bX (Qbw (A := (fun x => (x = gy22 ∧ zy22 ≠ 0) ∨ aN.heap.size ≤ x)) g tk0))⟩, eG, K_108⟩, Nat.lt_succ_self _⟩
 replace hm := iF c9 hm
 refine Qbq<|Qb6<|Qb6<|Qbo<|Qaz<|Qa3<|dw [([bq13])] [] (.leaf [(0,10),(3,10),(1,0),(2,0),(4,0),(5,10),(6,0)]) ?_
 intro gj R gR
 refine Qam ?_
 have eI := (((aZ.kz h (tk1 (Qan (b := aq) L))).kz C (tk1 (Qas (b := aq) d (Qan L)))).gr R)
 refine dh 0 rfl rfl (fun w hS => Qa2 Qve rfl (Bx.kp eI hS) rfl) ?_
 have Y9 := Gr.trans G4 G5
 have eJ := ((((((((((b9.gr Y9).kz K7).kz ao).gr Y7).kz F).gr y).md z).kz h (tk1 (Qca (b := b3) f))).kz C (tk1 (Qas (b := b3) d (Qca f)))).gr R)
 refine dh 0 rfl rfl (fun w hS => Qa6 Qai rfl (Bx.kp eJ hS) rfl) ?_
 have eK := (cE.gr R)
 have bY := (aj.gr R)
 have bZ := ((et.kz C (tk2 ((Qgb (Qbw (A := (fun x => zy15 = 0 ∨ x ≠ gy15)) d (tk1 D.o) (fun x hx => (tk1 am.o)))) : zy15 = 0 ∨ zy22 = 0 ∨ gy15 ≠ gy22) ((tk1 E.o) : zy15 = 0 ∨ gy15 ≠ bq13))).gr R)
 have b0 := (ai.gr R)
 have eL := (((((((M.gr Y7).kz F).gr y).md z).kz h (tk1 (Qca (b := bq8) f))).kz C (tk1 (Qas (b := bq8) d (Qca f)))).gr R)
 have eM := ((es.kz C (tk2 ((Qgb (Qbw (A := (fun x => zy10 = 0 ∨ x ≠ gy10)) d (Qbn (A := (fun x => zy10 = 0 ∨ x ≠ gy10)) f (fun x hx => (tk1 t.o))) (fun x hx => (tk1 t.o)))) : zy10 = 0 ∨ zy22 = 0 ∨ gy10 ≠ gy22) (Qan (b := bq13) t))).gr R)
 have eN := (((((((N.gr Y7).kz F).gr y).md z).kz h (tk1 (Qca (b := bq11) f))).kz C (tk1 (Qas (b := bq11) d (Qca f)))).gr R)
 obtain ⟨hX, eO, hm⟩ := bnd hm
 refine qz [] rfl (Qcn Xdj rfl rfl (Qo2 eO eK bY (Own.rd bZ) (Own.rd b0) eL (Own.rd eM) eN)) ⟨fun _ => tk0, trivial⟩ ?_
 rintro _ hY ⟨rfl, eP⟩
 refine kG eP ?_
 obtain ⟨bE, eQ, hm⟩ := bnd hm
 refine qz [] rfl (eC Xcu rfl (Qn7 eQ)) ⟨fun _ => tk0, trivial⟩ ?_
 rintro _ hZ ⟨rfl, eR⟩
 refine kG eR<|qz [] rfl (eC Xa8 rfl (Qx0 bE p3 _)) ⟨fun _ => tk0, trivial⟩ ?_
 rintro _ h0 ⟨rfl, eS⟩
 refine kG eS ?_
 have aS := Gr.trans (Gr.trans eP eR) eS
 have eT := ((Kp.refl ([bq13]) gj).gr aS)
 refine qh 0 rfl rfl eT (fun w hS => Qa0 Qlt rfl) ?_
 have eU := (bY.gr aS)
 refine qz [(1, bq13)] rfl (Qkp (cs' := Qa8.cs (Qa8.mk [] K T (Qy8 bE p3) (drv p3 (un8 53#8) 0#64)) vy15 vy32) (vs := kb (Qy8 bE p3)) (Qai).siz rfl rfl rfl rfl rfl eU rfl (by obtain ⟨cw, ap⟩ := Qyg (drv p3 (un8 53#8) 0#64); rw [← ap]; obtain ⟨h1, gk⟩ := Qyg (Qy8 bE p3); rw [← gk]; first | done | rfl)) ⟨fun _ => tk0, trivial⟩ ?_
 rintro _ h2 ⟨eV, a1⟩
 refine kM a1<|qd 3 rfl<|qv rfl (Qa6 Qcp rfl eV rfl) ?_
 have eW := ((((((((((((aT.gr G5).kz K7).kz ao).gr Y7).kz F).gr y).md z).kz h (tk1 (Qca (b := b4) f))).kz C (tk1 (Qas (b := b4) d (Qca f)))).gr R).gr aS).md a1)
 have b5 := ((bZ.gr aS).md a1 (tk1 ((tk1 E.o) : zy15 = 0 ∨ gy15 ≠ bq13)))
 have b6 := ((b0.gr aS).md a1 (Qas g (Qas d (tk1 p.o))))
 refine qe rfl (Qah Qcp rfl rfl (Qa8.cs_ones _ _ _ (Own.oneB b5) (Own.oneB b6)) eW rfl rfl) ?_
 rintro _ h3 ⟨eX, cI⟩
 refine qm rfl<|Qa1<|Qaf ?_
 have eY := (b5.md cI (Qca av))
 have eZ := (b6.md cI (Qas g (Qas d (Qca f))))
 have e0 := (((((f8.kz C (tk1 (Qbw (A := (fun x => w.heap.size ≤ x)) d (Qbn (A := (fun x => w.heap.size ≤ x)) f)))).trans R).trans aS).md a1).md cI)
 cases hm
 refine ⟨_, _, rfl, Qbm rfl (Qaq Qcp rfl eX rfl) (Qac rfl), ?_⟩
 exact ⟨vy15, zy15, gy15, vy32, zy32, gy32, rfl, eY, ⟨(Qbn (A := (fun x => w.heap.size ≤ x)) av)⟩, eZ, ⟨(Qbw (A := (fun x => w.heap.size ≤ x)) g (Qbw (A := (fun x => w.heap.size ≤ x)) d (Qbn (A := (fun x => w.heap.size ≤ x)) f)))⟩, ⟨(Qbw (A := (fun x => zy15 = 0 ∨ x ≠ gy15)) g (Qbw (A := (fun x => zy15 = 0 ∨ x ≠ gy15)) d (tk1 D.o) (fun x hx => (tk1 am.o))) (fun x hx => (tk1 am.o)))⟩, e0⟩
end Go.Proofs.YtjdffpglgkefmaaGreat.Mx
