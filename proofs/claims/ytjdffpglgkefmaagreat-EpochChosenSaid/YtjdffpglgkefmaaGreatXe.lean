/- Walks that follow mirrors: Xe. Printed by mx.py. -/
import Derived.Test.YtjdffpglgkefmaaGreatXd
import Derived.Test.YtjdffpglgkefmaaGreatZd
set_option linter.unusedVariables false
set_option linter.unusedSimpArgs false
set_option maxRecDepth 100000
set_option maxHeartbeats 2000000
namespace Go.Proofs.YtjdffpglgkefmaaGreat.Mx
open Go Go.RowKit Go.Sx
theorem Qz9 : FA Tryz.prog 78 1 4 := fun _ _ _ => by kernel_rfl
theorem Qwg : FA Tryz.prog 78 0 0 := fun _ _ _ => by kernel_rfl
theorem Xgi : FA Tryz.prog 33 0 0 := fun _ _ _ => by kernel_rfl
theorem Xc9 : FA Tryz.prog 78 2 5 := fun _ _ _ => by kernel_rfl
theorem Qpm : Agg Tryz.prog 75 18 := fun _ => ⟨by kernel_rfl, by kernel_rfl⟩
theorem Xoi : ZV Tryz.prog 75 (.agg [.bool false, .int .i64 0, .int .u8 0, .int .u8 0, .int .u8 0, .int .u8 0, .int .u8 0, .int .u8 0, .int .u8 0, .int .u8 0, .int .u8 0, .int .u8 0, .int .u8 0, .int .u8 0, .int .u8 0, .int .u8 0, .int .u8 0, .int .u8 0].toArray) := fun _ => by kernel_rfl
theorem Qvw : FA Tryz.prog 75 0 0 := fun _ _ _ => by kernel_rfl
theorem Xcf : One Tryz.prog 4 := fun _ => ⟨by kernel_rfl, by kernel_rfl⟩
theorem Qyq : FA Tryz.prog 75 1 1 := fun _ _ _ => by kernel_rfl
theorem Xo5 : BS Tryz.prog 75 (fun i => [(0, 1), (1, 1), (2, 16)][i]?) [.bool false, .int .i64 0, .int .u8 0, .int .u8 0, .int .u8 0, .int .u8 0, .int .u8 0, .int .u8 0, .int .u8 0, .int .u8 0, .int .u8 0, .int .u8 0, .int .u8 0, .int .u8 0, .int .u8 0, .int .u8 0, .int .u8 0, .int .u8 0] := Qr3 Tryz.underlying75 Xoi ⟨rfl, (Xcf).siz, rfl, (Qay).siz, rfl, (Qaj).siz, trivial⟩
theorem Xue : EqC Tryz.prog 1 4 [.b] := Xki Tryz.underlying4 Xcf
theorem Xpa : EqC Tryz.prog 3 75 [.b, .i .i64, .i .u8, .i .u8, .i .u8, .i .u8, .i .u8, .i .u8, .i .u8, .i .u8, .i .u8, .i .u8, .i .u8, .i .u8, .i .u8, .i .u8, .i .u8, .i .u8] := Qma Tryz.underlying75 (by kernel_rfl) Qpm (show EqF _ 2 _ _ _ from (Qgk (ks1 := [.b]) (ks2 := [.i .i64, .i .u8, .i .u8, .i .u8, .i .u8, .i .u8, .i .u8, .i .u8, .i .u8, .i .u8, .i .u8, .i .u8, .i .u8, .i .u8, .i .u8, .i .u8, .i .u8]) rfl (by simp) (Xue.up (by decide)) (Qgk (ks1 := [.i .i64]) (ks2 := [.i .u8, .i .u8, .i .u8, .i .u8, .i .u8, .i .u8, .i .u8, .i .u8, .i .u8, .i .u8, .i .u8, .i .u8, .i .u8, .i .u8, .i .u8, .i .u8]) rfl (by simp) (Xia.up (by decide)) (Qgk (ks1 := [.i .u8, .i .u8, .i .u8, .i .u8, .i .u8, .i .u8, .i .u8, .i .u8, .i .u8, .i .u8, .i .u8, .i .u8, .i .u8, .i .u8, .i .u8, .i .u8]) (ks2 := []) rfl (by simp) (Xf7.up (by decide)) (Qtr _)))))
theorem Xkz : EqT Tryz.prog 75 [.b, .i .i64, .i .u8, .i .u8, .i .u8, .i .u8, .i .u8, .i .u8, .i .u8, .i .u8, .i .u8, .i .u8, .i .u8, .i .u8, .i .u8, .i .u8, .i .u8, .i .u8] := ⟨by kernel_rfl, Qpm, 3, by decide, Xpa⟩
theorem Xua : En Tryz.prog 40 := fun _ _ => by kernel_rfl
theorem Xqz : En Tryz.prog 136 := fun _ _ => by kernel_rfl
theorem Xtl : En Tryz.prog 60 := fun _ _ => by kernel_rfl
theorem Xjd : BSl Tryz.prog 29 0 92 18 [] := Xh8 Tryz.underlying29 (Qu7).siz
theorem Xtp : En Tryz.prog 83 := fun _ _ => by kernel_rfl
theorem Xda : FA Tryz.prog 122 2 2 := fun _ _ _ => by kernel_rfl
theorem Xrl : En Tryz.prog 53 := fun _ _ => by kernel_rfl
theorem Xre : En Tryz.prog 50 := fun _ _ => by kernel_rfl
theorem Xmr : En Tryz.prog 25 := fun _ _ => by kernel_rfl
theorem Xuf : En Tryz.prog 84 := fun _ _ => by kernel_rfl
theorem Xo9 : FA Tryz.prog 75 2 2 := fun _ _ _ => by kernel_rfl
theorem Xu7 : En Tryz.prog 85 := fun _ _ => by kernel_rfl
theorem Qy3 {p0 p1 p2 vp2_1 zp2_1 gp2_1 op2_1 r} (hm : Qs8 p0 p1 p2 = some r) {w : World} (C : Rd w zp2_1 gp2_1 op2_1 18 vp2_1 (p2.Secret.Labels.map Qb7.cs)) :
    Calls Tryz.prog 40 [.agg (Qa8.cs p0).toArray, .agg (Qfs.cs p1).toArray, .agg (Qad.cs p2 vp2_1).toArray].toArray w fun e w' => ∃ v, e = .returned v ∧ (v = .int .i64 r ∧ Gr w w') := by
 unfold Qs8 at hm
 refine Qa5 76 Tryz.func40 rfl rfl rfl<|qs 4 rfl<|qe rfl (Qaq (cs := Qa8.cs p0) rfl rfl) ?_
 rintro _ w1 ⟨b1, rfl, P, u, G1⟩
 have U := u.lt
 refine qe rfl (Qaq (cs := Qfs.cs p1) rfl rfl) ?_
 rintro _ w2 ⟨b2, rfl, Q, x, G2⟩
 have V := x.lt
 refine qe rfl (Qaq (cs := Qad.cs p2 vp2_1) rfl rfl) ?_
 rintro _ w3 ⟨b3, rfl, R, m, G3⟩
 have W := m.lt
 refine qm rfl<|Qa1<|Qa4<|qs 4 rfl ?_
 have Y1 := Gr.trans G2 G3
 have B8 := (u.gr Y1)
 refine qv rfl (Qa3 Qc3 rfl B8 rfl) ?_
 have B9 := (x.gr G3)
 refine qv rfl (Qa3 Qht rfl B9 rfl) ?_
 obtain ⟨x1, D, hm⟩ := bnd hm
 refine qe rfl (eC Xqh rfl (Que D)) ?_
 rintro _ w4 ⟨rfl, G4⟩
 have X := G4.size
 refine qm rfl<|qd 2 rfl<|qm rfl<|qv rfl (Qc1 (a := x1) (b := 0) rfl rfl)<|Qa1 ?_
 refine Qam rfl (fun c1 => ?_) (fun c1 => ?_)
 · replace hm := iT c1 hm
   refine qs 2 rfl<|qm rfl<|qm rfl<|Qa1<|Qag<|Qb3 ?_
   have Y2 := Gr.trans (Gr.trans G1 Y1) G4
   have E := ((Gr.refl w).trans Y2)
   cases hm
   refine ⟨_, _, rfl, Qaw rfl (Qab rfl), ?_⟩
   exact ⟨rfl, E⟩
 replace hm := iF c1 hm
 refine qu<|Qa4 ?_
 have Y3 := Gr.trans (Gr.trans G1 Y1) G4
 have y := ((Gr.refl w).trans Y3)
 refine qj (β := Bool) (rg 16 28) (fun a2 => [(43, .bool a2)]) (fun a2 wr => (Qhn p2 a2 = some r) ∧ Kz [] w4 wr) ?_ ?_
 · refine dw [([])] [] (.leaf [(0,10),(1,10),(2,10),(3,10),(4,10),(5,10),(6,10),(7,10),(8,10),(9,10),(10,10),(11,10),(12,10),(13,10),(14,10),(15,10),(16,10),(17,10),(18,10),(19,10),(20,10),(21,10),(22,10),(23,10),(24,10),(25,10),(26,10),(27,10)]) ?_
   intro n d S
   refine Qal<|dh 0 rfl rfl (fun w hS => Qa0 Qz9 rfl) ?_
   have j := ((m.gr G4).gr d)
   refine dh 0 rfl rfl (fun w hS => Qa2 (v := .int .i64 p2.Ahead) Qay rfl (Bx.kp j hS) rfl)<|dh 0 rfl rfl (fun w hS => Qa0 Qld rfl) ?_
   have z := ((B9.gr G4).gr d)
   refine dh 0 rfl rfl (fun w hS => Qa2 (v := .int .i64 p1.Drift) Qay rfl (Bx.kp z hS) rfl)<|dh 0 rfl rfl (fun w hS => Xid (a := p1.Drift) rfl)<|dh 0 rfl rfl (fun w hS => Qch (a := p2.Ahead) (b := w64 (-p1.Drift)) rfl rfl)<|qq 0 rfl rfl (Kp.refl ([]) n) (fun w hS => Qac rfl) (fun o => ?_) (fun o => ?_)
   · replace hm := iT o hm
     refine dx 0 rfl rfl<|dx 0 rfl rfl<|dx 0 rfl rfl<|dx 0 rfl rfl<|dx 0 rfl rfl<|dm 0 rfl rfl<|dm 0 rfl rfl ?_
     refine dx 0 rfl rfl<|dx 0 rfl rfl<|dx 0 rfl rfl<|dx 0 rfl rfl<|dm 0 rfl rfl<|dm 0 rfl rfl<|dx 0 rfl rfl ?_
     refine dx 0 rfl rfl<|dx 0 rfl rfl<|dx 0 rfl rfl<|dx 0 rfl rfl<|dx 0 rfl rfl<|dx 0 rfl rfl<|dm 0 rfl rfl ?_
     refine Qaa ?_
     exact ⟨rfl, true, sbq, hm, (kz0.gr d)⟩
   replace hm := iF o hm
   refine dh 0 rfl rfl (fun w hS => Qa0 Qz9 rfl)<|dh 0 rfl rfl (fun w hS => Qa2 (v := .int .i64 p2.Ahead) Qay rfl (Bx.kp j hS) rfl)<|dh 0 rfl rfl (fun w hS => Qa0 Qld rfl)<|dh 0 rfl rfl (fun w hS => Qa2 (v := .int .i64 p1.Drift) Qay rfl (Bx.kp z hS) rfl)<|dh 0 rfl rfl (fun w hS => Qf2 (a := p2.Ahead) (b := p1.Drift) rfl rfl)<|dm 0 rfl rfl<|qq 0 rfl rfl (Kp.refl ([]) n) (fun w hS => Qac rfl) (fun p => ?_) (fun p => ?_)
   · replace hm := iT p hm
     refine dx 0 rfl rfl<|dx 0 rfl rfl<|dx 0 rfl rfl<|dx 0 rfl rfl<|dm 0 rfl rfl<|dm 0 rfl rfl<|dx 0 rfl rfl ?_
     refine dx 0 rfl rfl<|dx 0 rfl rfl<|dx 0 rfl rfl<|dx 0 rfl rfl<|dx 0 rfl rfl<|dx 0 rfl rfl<|dm 0 rfl rfl ?_
     refine Qaa ?_
     exact ⟨rfl, true, sbq, hm, (kz0.gr d)⟩
   replace hm := iF p hm
   refine dh 0 rfl rfl (fun w hS => Qa0 Qwg rfl)<|dh 0 rfl rfl (fun w hS => Qa0 Xgi rfl)<|dh 0 rfl rfl (fun w hS => Qa2 (v := .int .i64 p2.Secret.Receiver) Qay rfl (Bx.kp j hS) rfl)<|dh 0 rfl rfl (fun w hS => Qch (a := p2.Secret.Receiver) (b := 0) rfl rfl)<|dm 0 rfl rfl<|qq 0 rfl rfl (Kp.refl ([]) n) (fun w hS => Qac rfl) (fun q => ?_) (fun q => ?_)
   · replace hm := iT q hm
     refine dx 0 rfl rfl<|dx 0 rfl rfl<|dx 0 rfl rfl<|dx 0 rfl rfl<|dx 0 rfl rfl<|dx 0 rfl rfl<|dx 0 rfl rfl ?_
     refine dm 0 rfl rfl<|Qaa ?_
     exact ⟨rfl, true, sbq, hm, (kz0.gr d)⟩
   replace hm := iF q hm
   refine dh 0 rfl rfl (fun w hS => Qa0 Qwg rfl)<|dh 0 rfl rfl (fun w hS => Qa0 Xgi rfl)<|dh 0 rfl rfl (fun w hS => Qa2 (v := .int .i64 p2.Secret.Receiver) Qay rfl (Bx.kp j hS) rfl)<|dh 0 rfl rfl (fun w hS => Qa0 Qmv rfl) ?_
   have F := ((B8.gr G4).gr d)
   refine dh 0 rfl rfl (fun w hS => Qa2 (v := .int .i64 p0.Depth) Qay rfl (Bx.kp F hS) rfl) ?_
   obtain ⟨n9, hn9, hm⟩ := bnd hm
   refine dh 0 rfl rfl (fun w hS => Qu0 (a := 1) (b := p0.Depth) rfl rfl hn9)<|dh 0 rfl rfl (fun w hS => Qeg (a := p2.Secret.Receiver) (b := Qxb 1 n9) rfl rfl)<|dm 0 rfl rfl<|Qaa ?_
   exact ⟨rfl, (decide (Qxb 1 n9 ≤ p2.Secret.Receiver)), sbq, hm, (kz0.gr d)⟩
 clear hm; rintro a2 w5 ⟨hm, K5⟩
 have Y := K5.size
 unfold Qhn at hm
 refine Qam rfl (fun c2 => ?_) (fun c2 => ?_)
 · replace hm := Qc5 c2 hm
   refine qs 1 rfl<|qm rfl<|qb ?_
   have G := (y.kz K5)
   cases hm
   refine ⟨_, _, rfl, Qaw rfl (Qab rfl), ?_⟩
   exact ⟨rfl, G⟩
 replace hm := Qc7 c2 hm
 refine qu<|Qa4<|qs 3 rfl<|qv rfl (Qa0 Xc9 rfl) ?_
 have H := ((m.gr G4).kz K5)
 refine qv rfl (Qb6 (vs := Qbg.cs p2.Slots) Xlo rfl H rfl rfl)<|qm rfl<|Qa1<|Qan ?_
 have A := (y.kz K5)
 refine Qbn (α := Nat × Int) ([6, 8, 9] ++ rg 46 30) (fun ⟨n2, a4⟩ => [(6, .int .i64 0), (46, .int .i64 a4)]) (fun ⟨n2, a4⟩ wr => (Qc2 (Qkz p2) n2 a4 = some r) ∧ Kz [] w5 wr) (fun ⟨n2, a4⟩ => n2) ⟨Qcw, 0⟩ ?_ ?_ ?_
 · exact sbq
 · exact ⟨hm, Kz.refl _ _⟩
 clear hm; rintro ⟨n2, a4⟩ w6 ⟨hm, K6⟩
 have Z := K6.size
 have hb := Qbw hm; clear hm; obtain ⟨n2, rfl, hm⟩ := hb
 generalize s : Qc2 (Qkz p2) n2 = B at hm
 unfold Qkz at hm
 try dsimp only at hm
 refine qs 1 rfl<|qv rfl (Qch (a := a4) (b := 2) rfl rfl)<|Qa1<|Qa4<|cnF rfl (fun c3 => ?_) (fun c3 => ?_)
 · replace hm := iF c3 hm
   refine Qbs<|Qb4<|Qb4<|Qbr<|Qb1<|qs 1 rfl ?_
   refine qm rfl<|Qa1<|Qag ?_
   have I := (A.kz K6)
   cases hm
   refine ⟨_, _, rfl, Qaw rfl (Qab rfl), ?_⟩
   exact ⟨rfl, I⟩
 replace hm := iT c3 hm
 refine qu<|Qa4<|Qan<|qs 5 rfl<|qm rfl ?_
 obtain ⟨y5, J, hm⟩ := bnd hm
 refine qv rfl (Xrj (l := [p2.Slots.a0, p2.Slots.a1]) (c := Qbl.cs) (i := a4) Tryz.underlying76 (Qpm).siz Qpm rfl rfl rfl (Qjk _ (fun _ => rfl) (fun _ => rfl)) rfl J)<|qe rfl (Qa7 (cs := Qbl.cs (Qbl.mk false 0 k0)) Xoi rfl) ?_
 rintro _ w7 ⟨b7, rfl, T, K, G7⟩
 refine qm rfl<|qe rfl (Qai Qpm rfl rfl rfl K rfl rfl) ?_
 rintro _ w8 ⟨f, M8⟩
 refine Qa1 ?_
 have L := (((A.kz K6).trans G7).md M8)
 refine qj (β := Bool) (rg 50 25) (fun a6 => [(74, .bool a6)]) (fun a6 wr => (Qf4 a4 B a6 = some r) ∧ Kz [] w8 wr) ?_ ?_
 · refine qg 25 rfl<|qv rfl (Qa0 Qvw rfl)<|qv rfl (Qa2 (v := .bool y5.Full) Xcf rfl f rfl)<|qpF rfl (Qac rfl) (fun c5 => ?_) (fun c5 => ?_)
   · replace hm := Qc7 c5 hm
     refine qk rfl<|qk rfl<|qk rfl<|qk rfl<|qk rfl<|qk rfl<|qk rfl ?_
     refine qk rfl<|qk rfl<|qk rfl<|qk rfl<|qm rfl<|qm rfl<|qv rfl (Qa0 Qvw rfl) ?_
     refine qv rfl (Qa2 (v := .bool y5.Full) Xcf rfl f rfl)<|qv rfl (Qcl rfl)<|qpF rfl (Qac rfl) (fun c9 => ?_) (fun c9 => ?_)
     · replace hm := Qc7 c9 hm
       refine qk rfl<|qk rfl<|qk rfl<|qm rfl<|qm rfl<|Qaa ?_
       exact ⟨rfl, false, sbq, hm, kz0⟩
     replace hm := Qc5 c9 hm
     refine qv rfl (Qa3 Qpm rfl f rfl)<|qv rfl (Qat (cs := Qbl.cs (Qbl.mk false 0 k0)) Xo5 rfl (by kernel_rfl))<|qv rfl (Qmi (cf := Qbl.cs) (a := y5) (b := (Qbl.mk false 0 k0)) Xkz rfl rfl rfl rfl (fun h => Qbl.cs_inj h))<|qm rfl<|qm rfl<|Qaa ?_
     exact ⟨rfl, (decide (y5 ≠ (Qbl.mk false 0 k0))), sbq, hm, kz0⟩
   replace hm := Qc5 c5 hm
   refine qv rfl (Qa0 Qyq rfl)<|qv rfl (Qa2 (v := .int .i64 y5.Epoch) Qay rfl f rfl) ?_
   obtain ⟨x7, M, hm⟩ := bnd hm
   refine qe rfl (eC Qzy rfl (Qf8 M)) ?_
   rintro _ aa ⟨rfl, g⟩
   refine qv rfl (Qcl rfl)<|qp rfl (Qac rfl) (fun c6 => ?_) (fun c6 => ?_)
   · replace hm := Qc5 c6 hm
     refine qk rfl<|qk rfl<|qk rfl<|qk rfl<|qk rfl<|qm rfl<|qm rfl ?_
     refine qm rfl<|qk rfl<|qk rfl<|qk rfl<|qk rfl<|qk rfl<|qk rfl ?_
     refine qk rfl<|qk rfl<|qm rfl<|Qaa ?_
     exact ⟨rfl, true, sbq, hm, (kz0.gr g)⟩
   replace hm := Qc7 c6 hm
   refine qv rfl (Qa0 Qyq rfl) ?_
   have t := (f.gr g)
   refine qv rfl (Qa2 (v := .int .i64 y5.Epoch) Qay rfl t rfl) ?_
   obtain ⟨x8, N, hm⟩ := bnd hm
   refine qv rfl (Qk0 (a := y5.Epoch) (b := 2) rfl rfl N)<|qm rfl<|qv rfl (Qc1 (a := x8) (b := a4) rfl rfl)<|qm rfl<|qm rfl<|qp rfl (Qac rfl) (fun c7 => ?_) (fun c7 => ?_)
   · replace hm := iT c7 hm
     refine qk rfl<|qk rfl<|qk rfl<|qk rfl<|qk rfl<|qk rfl<|qk rfl ?_
     refine qk rfl<|qm rfl<|Qaa ?_
     exact ⟨rfl, true, sbq, hm, (kz0.gr g)⟩
   replace hm := iF c7 hm
   refine qv rfl (Qa0 Qvw rfl)<|qv rfl (Qa2 (v := .bool y5.Full) Xcf rfl t rfl)<|qv rfl (Qcl rfl)<|qpF rfl (Qac rfl) (fun c8 => ?_) (fun c8 => ?_)
   · replace hm := Qc7 c8 hm
     refine qk rfl<|qk rfl<|qk rfl<|qm rfl<|qm rfl<|Qaa ?_
     exact ⟨rfl, false, sbq, hm, (kz0.gr g)⟩
   replace hm := Qc5 c8 hm
   refine qv rfl (Qa3 Qpm rfl t rfl)<|qv rfl (Qat (cs := Qbl.cs (Qbl.mk false 0 k0)) Xo5 rfl (by kernel_rfl))<|qv rfl (Qmi (cf := Qbl.cs) (a := y5) (b := (Qbl.mk false 0 k0)) Xkz rfl rfl rfl rfl (fun h => Qbl.cs_inj h))<|qm rfl<|qm rfl<|Qaa ?_
   exact ⟨rfl, (decide (y5 ≠ (Qbl.mk false 0 k0))), sbq, hm, (kz0.gr g)⟩
 clear hm; rintro a6 w9 ⟨hm, K9⟩
 unfold Qf4 at hm
 refine Qam rfl (fun c4 => ?_) (fun c4 => ?_)
 · replace hm := Qc5 c4 hm
   refine qs 1 rfl<|qm rfl<|Qa1<|Qag<|Qbo<|Qb3 ?_
   refine Qb3<|Qbo<|Qb3 ?_
   have O := (L.kz K9)
   cases hm
   refine ⟨_, _, rfl, Qaw rfl (Qab rfl), ?_⟩
   exact ⟨rfl, O⟩
 replace hm := Qc7 c4 hm
 refine Qc4<|Qaz<|Qb1<|qg 2 rfl<|qv rfl (Qcg (k := .i64) (a := a4) (b := 1) rfl rfl)<|qm rfl<|Qaa ?_
 have K_25 : Kz [] w5 w9 := (((K6.gr G7).md M8).kz K9)
 subst s
 exact ⟨rfl, ⟨n2, w64 (a4 + 1)⟩, sbq, ⟨hm, K_25⟩, Nat.lt_succ_self _⟩
theorem Qpy {p0 r} (hm : Qjb p0 = some r) {w : World} :
    Calls Tryz.prog 136 [.agg (Qce.cs p0).toArray].toArray w fun e w' => ∃ v, e = .returned v ∧ (v = .bool r ∧ Gr w w') := by
 unfold Qjb at hm
 refine Qa5 21 Tryz.func136 rfl rfl rfl<|qs 2 rfl<|qe rfl (Qaq (cs := Qce.cs p0) rfl rfl) ?_
 rintro _ w1 ⟨b1, rfl, d, c, G1⟩
 refine qm rfl<|qd 19 rfl<|qv rfl (Qa0 Qn1 rfl)<|qv rfl (Qa0 Qoo rfl)<|qv rfl (Qa2 (v := .int .i64 p0.Subset.Node) Qay rfl c rfl) ?_
 refine qv rfl (Qa0 Qn1 rfl)<|qv rfl (Qa0 Qjv rfl)<|qv rfl (Qa2 (v := .int .i64 p0.Subset.Minus) Qay rfl c rfl)<|qv rfl (Xop rfl rfl)<|qv rfl (Qch (a := mnI p0.Subset.Node p0.Subset.Minus) (b := 0) rfl rfl)<|qp rfl (Qac rfl) (fun c1 => ?_) (fun c1 => ?_)
 · replace hm := iT c1 hm
   refine qk rfl<|qk rfl<|qk rfl<|qk rfl<|qk rfl<|qk rfl<|qk rfl ?_
   refine qk rfl<|qm rfl<|qm rfl<|Qa1<|Qag ?_
   have X3 := ((Gr.refl w).trans G1)
   cases hm
   refine ⟨_, _, rfl, Qaw rfl (Qab rfl), ?_⟩
   exact ⟨rfl, X3⟩
 replace hm := iF c1 hm
 refine qv rfl (Qa0 Qn1 rfl)<|qv rfl (Qa0 Qoo rfl)<|qv rfl (Qa2 (v := .int .i64 p0.Subset.Node) Qay rfl c rfl)<|qv rfl (Qa0 Qn1 rfl)<|qv rfl (Qa0 Qjv rfl)<|qv rfl (Qa2 (v := .int .i64 p0.Subset.Minus) Qay rfl c rfl)<|qv rfl (Xfv rfl rfl) ?_
 refine qv rfl (Qf2 (a := mxI p0.Subset.Node p0.Subset.Minus) (b := 127) rfl rfl)<|qm rfl<|qm rfl<|Qa1<|Qag ?_
 have X4 := ((Gr.refl w).trans G1)
 cases hm
 refine ⟨_, _, rfl, Qaw rfl (Qab rfl), ?_⟩
 exact ⟨rfl, X4⟩
theorem Qh7 {p0 vp0 zp0 gp0 op0 r} (hm : Qcv p0 = some r) {w : World} (f : Rd w zp0 gp0 op0 18 vp0 (p0.map Qce.cs)) :
    Calls Tryz.prog 200 [vp0, .func (.func 136) [].toArray [].toArray].toArray w fun e w' => ∃ v, e = .returned v ∧ (v = .int .i64 r ∧ Gr w w') := by
 unfold Qcv at hm
 refine Qa5 19 Tryz.func200 rfl rfl rfl<|qs 1 rfl<|qm rfl<|Qa1<|Qa4<|Qa4 ?_
 refine qg 3 rfl<|qm rfl<|qv rfl (Qbi (l := p0) (c := Qce.cs) Tryz.underlying45 rfl f)<|qm rfl<|Qa1<|Qan<|Qbn (α := Nat × Int) ([4, 5] ++ rg 8 11) (fun ⟨n1, a2⟩ => [(4, .int .i64 0), (8, .int .i64 a2)]) (fun ⟨n1, a2⟩ wr => (Qc2 (Qbt p0) n1 a2 = some r) ∧ Kz [] w wr) (fun ⟨n1, a2⟩ => n1) ⟨Qcw, 0⟩ ?_ ?_ ?_
 · exact sbq
 · exact ⟨hm, Kz.refl _ _⟩
 clear hm; rintro ⟨n1, a2⟩ w1 ⟨hm, K1⟩
 have hb := Qbw hm; clear hm; obtain ⟨n1, rfl, hm⟩ := hb
 generalize d : Qc2 (Qbt p0) n1 = j at hm
 unfold Qbt at hm
 try dsimp only at hm
 refine qs 1 rfl<|qv rfl (Qch (a := a2) (b := (p0.length : Int)) rfl rfl)<|Qa1<|Qa4<|cnF rfl (fun c1 => ?_) (fun c1 => ?_)
 · replace hm := iF c1 hm
   refine Qbs<|Qb4<|Qb4<|Qbr<|Qb1<|qs 1 rfl ?_
   refine qm rfl<|Qa1<|Qag ?_
   have X7 := ((Gr.refl w).kz K1)
   cases hm
   refine ⟨_, _, rfl, Qaw rfl (Qab rfl), ?_⟩
   exact ⟨rfl, X7⟩
 replace hm := iT c1 hm
 refine qu<|Qa4<|Qan<|qs 2 rfl<|qm rfl ?_
 refine qm rfl<|qd 6 rfl<|qm rfl<|qm rfl<|qm rfl ?_
 obtain ⟨y3, g, hm⟩ := bnd hm
 have B3 := (f.kz K1)
 refine qv rfl (Qfr (i := a2) Tryz.underlying45 (Qi2).siz rfl B3 rfl g)<|qv rfl (Qhs Qi2 rfl B3 g (by first | rfl | omega)) ?_
 obtain ⟨x4, h, hm⟩ := bnd hm
 refine qe rfl (Qcy Xqz rfl rfl (Qpy h)) ?_
 rintro _ w2 ⟨rfl, G2⟩
 refine Qa1<|Qam rfl (fun c2 => ?_) (fun c2 => ?_)
 · replace hm := Qc5 c2 hm
   refine qs 2 rfl<|qm rfl<|qm rfl<|Qa1<|Qag<|Qbo ?_
   refine Qb3<|Qb3<|Qbo<|Qb3 ?_
   have X5 := (((Gr.refl w).kz K1).trans G2)
   cases hm
   refine ⟨_, _, rfl, Qaw rfl (Qab rfl), ?_⟩
   exact ⟨rfl, X5⟩
 replace hm := Qc7 c2 hm
 refine Qc4<|Qaz<|Qb1<|qg 2 rfl<|qv rfl (Qcg (k := .i64) (a := a2) (b := 1) rfl rfl)<|qm rfl<|Qaa ?_
 have K_6 : Kz [] w w2 := (K1.gr G2)
 subst d
 exact ⟨rfl, ⟨n1, w64 (a2 + 1)⟩, sbq, ⟨hm, K_6⟩, Nat.lt_succ_self _⟩
theorem Qge {p0 vp0 zp0 gp0 op0 r} (hm : Qco p0 = some r) {w : World} (c : Rd w zp0 gp0 op0 18 vp0 (p0.map Qce.cs)) :
    Calls Tryz.prog 125 [vp0, .func (.func 136) [].toArray [].toArray].toArray w fun e w' => ∃ v, e = .returned v ∧ (v = .bool r ∧ Gr w w') := by
 unfold Qco at hm
 refine Qa5 9 Tryz.func125 rfl rfl rfl<|qs 1 rfl<|qm rfl<|qd 5 rfl ?_
 refine qm rfl<|qm rfl ?_
 obtain ⟨x1, d, hm⟩ := bnd hm
 refine qe rfl (eC Xlc rfl (Qh7 d c)) ?_
 rintro _ w1 ⟨rfl, G1⟩
 refine qv rfl (Qeg (a := x1) (b := 0) rfl rfl)<|qm rfl<|Qa1<|Qag ?_
 have X3 := ((Gr.refl w).trans G1)
 cases hm
 refine ⟨_, _, rfl, Qaw rfl (Qab rfl), ?_⟩
 exact ⟨rfl, X3⟩
theorem Qry {p0 vp0_2 zp0_2 gp0_2 op0_2 vp0_4 zp0_4 gp0_4 op0_4 vp0_39 zp0_39 gp0_39 op0_39 r} (hm : Qkf p0 = some r) {w : World} (j : Rd w zp0_2 gp0_2 op0_2 18 vp0_2 (p0.Head.Items.map Qce.cs)) (k : Rd w zp0_4 gp0_4 op0_4 2 vp0_4 (p0.Head.Points.map Qah.cs)) (f : Rd w zp0_39 gp0_39 op0_39 1 vp0_39 (p0.Data.map bvc)) :
    Calls Tryz.prog 60 [.agg (Qak.cs p0 vp0_2 vp0_4 vp0_39).toArray].toArray w fun e w' => ∃ v, e = .returned v ∧ (v = .int .i64 r ∧ Gr w w') := by
 have B := j.lth
 have C := k.lth
 have D := f.lth
 unfold Qkf at hm
 refine Qa5 99 Tryz.func60 rfl rfl rfl<|qs 2 rfl<|qe rfl (Qaq (cs := Qak.cs p0 vp0_2 vp0_4 vp0_39) rfl rfl) ?_
 rintro _ w1 ⟨b1, rfl, R, m, G1⟩
 have T := m.lt
 refine qm rfl<|qd 4 rfl<|qv rfl (Qa0 Qmu rfl)<|qv rfl (Qb6 (vs := Qa9.cs p0.Head vp0_2 vp0_4) Qc8 rfl m rfl rfl)<|qe rfl (Qa7 (cs := Qa9.cs (Qa9.mk [] 0#64 [] k0 k0) (.slice none 0 0) (.slice none 0 0)) Qsf rfl) ?_
 rintro _ w2 ⟨b2, rfl, S, G, G2⟩
 have Y1 := Gr.trans G1 G2
 have B8 := (j.gr Y1)
 have B9 := (k.gr Y1)
 refine qe rfl (Qai Qc8 rfl rfl (Qa9.cs_ones _ _ _ (Rd.oneB B8) (Rd.oneB B9)) G rfl rfl) ?_
 rintro _ w3 ⟨g, M3⟩
 refine Qa1 ?_
 have H := (((Gr.refl w).trans Y1).md M3)
 refine qj (β := Bool) ([4] ++ rg 9 27) (fun a1 => [(4, .bool a1)]) (fun a1 wr => (Qd5 p0 a1 = some r) ∧ Kz [] w3 wr) ?_ ?_
 · refine qg 28 rfl<|qv rfl (Qa0 Qic rfl)<|qv rfl (Qa2 (v := vp0_2) Qke rfl g rfl) ?_
   have I := (B8.md M3 (Qar B))
   refine qv rfl (Qbi (l := p0.Head.Items) (c := Qce.cs) Tryz.underlying45 rfl I)<|qv rfl (Qe4 (a := (p0.Head.Items.length : Int)) (b := 0) rfl rfl)<|qpF rfl (Qac rfl) (fun n => ?_) (fun n => ?_)
   · replace hm := iF n hm
     refine qk rfl<|qk rfl<|qk rfl<|qk rfl<|qm rfl<|qm rfl<|qk rfl ?_
     refine qk rfl<|qk rfl<|qm rfl<|qm rfl<|qk rfl<|qk rfl<|qk rfl ?_
     refine qk rfl<|qm rfl<|qm rfl<|qk rfl<|qk rfl<|qk rfl<|qk rfl ?_
     refine qm rfl<|qm rfl<|Qaa ?_
     exact ⟨rfl, false, sbq, hm, kz0⟩
   replace hm := iT n hm
   refine qv rfl (Qa0 Qgr rfl)<|qv rfl (Qa2 (v := vp0_4) Qiy rfl g rfl) ?_
   have J := (B9.md M3 (Qar C))
   refine qv rfl (Qbi (l := p0.Head.Points) (c := Qah.cs) Tryz.underlying46 rfl J)<|qv rfl (Qe4 (a := (p0.Head.Points.length : Int)) (b := 0) rfl rfl)<|qm rfl<|qpF rfl (Qac rfl) (fun o => ?_) (fun o => ?_)
   · replace hm := iF o hm
     refine qk rfl<|qk rfl<|qk rfl<|qm rfl<|qm rfl<|qk rfl<|qk rfl ?_
     refine qk rfl<|qk rfl<|qm rfl<|qm rfl<|qk rfl<|qk rfl<|qk rfl ?_
     refine qk rfl<|qm rfl<|qm rfl<|Qaa ?_
     exact ⟨rfl, false, sbq, hm, kz0⟩
   replace hm := iT o hm
   refine qv rfl (Qa0 Qp3 rfl)<|qv rfl (Qa2 (v := wv p0.Head.Base) Qb5 rfl g rfl)<|qv rfl (Qty (c := p0.Head.Base) (d := 0#64) rfl rfl)<|qm rfl<|qpF rfl (Qac rfl) (fun s => ?_) (fun s => ?_)
   · replace hm := iF s hm
     refine qk rfl<|qk rfl<|qk rfl<|qk rfl<|qm rfl<|qm rfl<|qk rfl ?_
     refine qk rfl<|qk rfl<|qk rfl<|qm rfl<|qm rfl<|Qaa ?_
     exact ⟨rfl, false, sbq, hm, kz0⟩
   replace hm := iT s hm
   refine qv rfl (Qa0 Qrw rfl)<|qv rfl (Qb6 (vs := kb p0.Head.Box) Qaj rfl g rfl rfl)<|qv rfl (Qec Qqj)<|qv rfl (Qtn (cf := kb) (a := p0.Head.Box) (b := k0) Qpp rfl rfl rfl rfl (fun h => Qmf h))<|qm rfl<|qpF rfl (Qac rfl) (fun t => ?_) (fun t => ?_)
   · replace hm := iF t hm
     refine qk rfl<|qk rfl<|qk rfl<|qk rfl<|qm rfl<|qm rfl<|Qaa ?_
     exact ⟨rfl, false, sbq, hm, kz0⟩
   replace hm := iT t hm
   refine qv rfl (Qa0 Qt7 rfl)<|qv rfl (Qb6 (vs := kb p0.Head.Check) Qaj rfl g rfl rfl)<|qv rfl (Qec Qqj)<|qv rfl (Qtn (cf := kb) (a := p0.Head.Check) (b := k0) Qpp rfl rfl rfl rfl (fun h => Qmf h))<|qm rfl<|qm rfl<|Qaa ?_
   exact ⟨rfl, (decide (p0.Head.Check = k0)), sbq, hm, kz0⟩
 clear hm; rintro a1 w4 ⟨hm, K4⟩
 unfold Qd5 at hm
 refine qs 1 rfl<|qm rfl<|qd 1 rfl<|qm rfl ?_
 refine Qa1 ?_
 have E := (H.kz K4)
 refine qj (β := Bool) ([6] ++ rg 36 61) (fun a2 => [(6, .bool a2)]) (fun a2 wr => (Qbe a2 = some r) ∧ Kz [] w4 wr) ?_ ?_
 · refine qs 2 rfl<|qv rfl (Qa0 Qyu rfl) ?_
   have i := (((m.gr G2).md M3).kz K4)
   refine qv rfl (Qa2 (v := bv p0.Kind) Qcu rfl i rfl)<|Qa1<|Qan<|qs 2 rfl<|qv rfl (Qit (p := p0.Kind) (q := 1#8) rfl rfl)<|qm rfl ?_
   refine Qa1<|cnF rfl (fun c2 => ?_) (fun c2 => ?_)
   · replace hm := iF c2 hm
     refine qs 2 rfl<|qv rfl (Qit (p := p0.Kind) (q := 2#8) rfl rfl)<|qm rfl<|Qa1<|cnF rfl (fun c9 => ?_) (fun c9 => ?_)
     · replace hm := iF c9 hm
       refine Qc4<|Qaz ?_
       exact ⟨rfl, false, sbq, hm, kz0⟩
     replace hm := iT c9 hm
     refine qg 18 rfl<|qv rfl (Qa0 Qqe rfl)<|qv rfl (Qa2 (v := .int .i64 p0.Epoch) Qay rfl i rfl)<|qv rfl (Qe4 (a := p0.Epoch) (b := 0) rfl rfl)<|qpF rfl (Qac rfl) (fun u => ?_) (fun u => ?_)
     · replace hm := iF u hm
       refine qk rfl<|qk rfl<|qk rfl<|qm rfl<|qm rfl<|qk rfl<|qk rfl ?_
       refine qk rfl<|qk rfl<|qm rfl<|qm rfl<|qk rfl<|qm rfl<|qm rfl ?_
       refine Qaa<|Qaz ?_
       exact ⟨rfl, false, sbq, hm, kz0⟩
     replace hm := iT u hm
     refine qv rfl (Qa0 Qyn rfl)<|qv rfl (Qa2 (v := bv p0.Low) Qcu rfl i rfl)<|qv rfl (Qt5 (p := p0.Low) (q := 4#8) rfl rfl)<|qm rfl<|qpF rfl (Qac rfl) (fun x => ?_) (fun x => ?_)
     · replace hm := iF x hm
       refine qk rfl<|qk rfl<|qk rfl<|qk rfl<|qm rfl<|qm rfl<|qk rfl ?_
       refine qm rfl<|qm rfl<|Qaa<|Qaz ?_
       exact ⟨rfl, false, sbq, hm, kz0⟩
     replace hm := iT x hm
     refine qv rfl (Qa0 Qrm rfl)<|qv rfl (Qa2 (v := vp0_39) Qms rfl i rfl) ?_
     have K := (((f.gr Y1).md M3 (Qar D)).kz K4)
     refine qv rfl (Qbi (l := p0.Data) (c := bvc) Tryz.underlying50 rfl K)<|qv rfl (Qoc (a := (p0.Data.length : Int)) (b := 256) rfl rfl)<|qm rfl<|qp rfl (Qac rfl) (fun y => ?_) (fun y => ?_)
     · replace hm := iT y hm
       refine qm rfl<|qm rfl<|qm rfl<|Qaa<|Qaz ?_
       exact ⟨rfl, a1, sbq, hm, kz0⟩
     replace hm := iF y hm
     refine qk rfl<|qm rfl<|qm rfl<|Qaa<|Qaz ?_
     exact ⟨rfl, false, sbq, hm, kz0⟩
   replace hm := iT c2 hm
   refine qg 39 rfl<|qv rfl (Qa0 Qqe rfl)<|qv rfl (Qa2 (v := .int .i64 p0.Epoch) Qay rfl i rfl) ?_
   obtain ⟨x3, L, hm⟩ := bnd hm
   refine qe rfl (eC Qzy rfl (Qf8 L)) ?_
   rintro _ w6 ⟨rfl, G6⟩
   refine qpF rfl (Qac rfl) (fun c3 => ?_) (fun c3 => ?_)
   · replace hm := Qc7 c3 hm
     refine qk rfl<|qk rfl<|qk rfl<|qm rfl<|qm rfl<|qk rfl<|qk rfl ?_
     refine qk rfl<|qm rfl<|qm rfl<|qk rfl<|qk rfl<|qk rfl<|qk rfl ?_
     refine qm rfl<|qm rfl<|qk rfl<|qk rfl<|qk rfl<|qk rfl<|qm rfl ?_
     refine qm rfl<|qk rfl<|qk rfl<|qk rfl<|qk rfl<|qm rfl<|qm rfl ?_
     refine qk rfl<|qk rfl<|qk rfl<|qk rfl<|qk rfl<|qm rfl<|qm rfl ?_
     refine Qaa<|Qaz ?_
     exact ⟨rfl, false, sbq, hm, (kz0.gr G6)⟩
   replace hm := Qc5 c3 hm
   refine qv rfl (Qa0 Qyn rfl) ?_
   have z := (i.gr G6)
   refine qv rfl (Qa2 (v := bv p0.Low) Qcu rfl z rfl)<|qv rfl (Qit (p := p0.Low) (q := 0#8) rfl rfl)<|qm rfl<|qpF rfl (Qac rfl) (fun c4 => ?_) (fun c4 => ?_)
   · replace hm := iF c4 hm
     refine qk rfl<|qk rfl<|qk rfl<|qm rfl<|qm rfl<|qk rfl<|qk rfl ?_
     refine qk rfl<|qk rfl<|qm rfl<|qm rfl<|qk rfl<|qk rfl<|qk rfl ?_
     refine qk rfl<|qm rfl<|qm rfl<|qk rfl<|qk rfl<|qk rfl<|qk rfl ?_
     refine qm rfl<|qm rfl<|qk rfl<|qk rfl<|qk rfl<|qk rfl<|qk rfl ?_
     refine qm rfl<|qm rfl<|Qaa<|Qaz ?_
     exact ⟨rfl, false, sbq, hm, (kz0.gr G6)⟩
   replace hm := iT c4 hm
   refine qv rfl (Qa0 Xce rfl)<|qv rfl (Qa2 (v := wv p0.Number) Qb5 rfl z rfl)<|qv rfl (Qty (c := p0.Number) (d := 0#64) rfl rfl)<|qm rfl<|qpF rfl (Qac rfl) (fun c5 => ?_) (fun c5 => ?_)
   · replace hm := iF c5 hm
     refine qk rfl<|qk rfl<|qk rfl<|qk rfl<|qm rfl<|qm rfl<|qk rfl ?_
     refine qk rfl<|qk rfl<|qk rfl<|qm rfl<|qm rfl<|qk rfl<|qk rfl ?_
     refine qk rfl<|qk rfl<|qm rfl<|qm rfl<|qk rfl<|qk rfl<|qk rfl ?_
     refine qk rfl<|qk rfl<|qm rfl<|qm rfl<|Qaa<|Qaz ?_
     exact ⟨rfl, false, sbq, hm, (kz0.gr G6)⟩
   replace hm := iT c5 hm
   refine qv rfl (Qa0 Qrm rfl)<|qv rfl (Qa2 (v := vp0_39) Qms rfl z rfl) ?_
   have M := ((((f.gr Y1).md M3 (Qar D)).kz K4).gr G6)
   refine qv rfl (Qbi (l := p0.Data) (c := bvc) Tryz.underlying50 rfl M)<|qv rfl (Qe4 (a := (p0.Data.length : Int)) (b := 0) rfl rfl)<|qm rfl<|qpF rfl (Qac rfl) (fun c6 => ?_) (fun c6 => ?_)
   · replace hm := iF c6 hm
     refine qk rfl<|qk rfl<|qk rfl<|qk rfl<|qm rfl<|qm rfl<|qk rfl ?_
     refine qk rfl<|qk rfl<|qk rfl<|qm rfl<|qm rfl<|qk rfl<|qk rfl ?_
     refine qk rfl<|qk rfl<|qk rfl<|qm rfl<|qm rfl<|Qaa<|Qaz ?_
     exact ⟨rfl, false, sbq, hm, (kz0.gr G6)⟩
   replace hm := iT c6 hm
   refine qv rfl (Qa0 Qic rfl) ?_
   have A := ((g.kz K4).gr G6)
   refine qv rfl (Qa2 (v := vp0_2) Qke rfl A rfl) ?_
   have F := (((B8.md M3 (Qar B)).kz K4).gr G6)
   refine qv rfl (Qbi (l := p0.Head.Items) (c := Qce.cs) Tryz.underlying45 rfl F)<|qv rfl (Qoc (a := (p0.Head.Items.length : Int)) (b := 64) rfl rfl)<|qm rfl<|qpF rfl (Qac rfl) (fun c7 => ?_) (fun c7 => ?_)
   · replace hm := iF c7 hm
     refine qk rfl<|qk rfl<|qk rfl<|qk rfl<|qm rfl<|qm rfl<|qk rfl ?_
     refine qk rfl<|qk rfl<|qk rfl<|qk rfl<|qm rfl<|qm rfl<|Qaa ?_
     refine Qaz ?_
     exact ⟨rfl, false, sbq, hm, (kz0.gr G6)⟩
   replace hm := iT c7 hm
   refine qv rfl (Qa0 Qgr rfl)<|qv rfl (Qa2 (v := vp0_4) Qiy rfl A rfl) ?_
   have N := (((B9.md M3 (Qar C)).kz K4).gr G6)
   refine qv rfl (Qbi (l := p0.Head.Points) (c := Qah.cs) Tryz.underlying46 rfl N)<|qv rfl (Qoc (a := (p0.Head.Points.length : Int)) (b := 8) rfl rfl)<|qm rfl<|qpF rfl (Qac rfl) (fun c8 => ?_) (fun c8 => ?_)
   · replace hm := iF c8 hm
     refine qk rfl<|qk rfl<|qk rfl<|qk rfl<|qk rfl<|qm rfl<|qm rfl ?_
     refine Qaa<|Qaz ?_
     exact ⟨rfl, false, sbq, hm, (kz0.gr G6)⟩
   replace hm := iT c8 hm
   refine qv rfl (Qa0 Qic rfl)<|qv rfl (Qa2 (v := vp0_2) Qke rfl A rfl)<|qm rfl ?_
   obtain ⟨x4, O, hm⟩ := bnd hm
   refine qe rfl (eC Xmf rfl (Qge O F)) ?_
   rintro _ w7 ⟨rfl, G7⟩
   refine qv rfl (Qcl rfl)<|qm rfl<|qm rfl<|Qaa<|Qaz ?_
   exact ⟨rfl, (!x4), sbq, hm, ((kz0.gr G6).gr G7)⟩
 clear hm; rintro a2 w5 ⟨hm, K5⟩
 unfold Qbe at hm
 refine Qa4<|qs 2 rfl<|qm rfl<|qv rfl (Qcl rfl)<|Qa1<|Qam rfl (fun c1 => ?_) (fun c1 => ?_)
 · replace hm := Qc5 c1 hm
   refine qs 1 rfl<|qm rfl<|qb ?_
   have P := (E.kz K5)
   cases hm
   refine ⟨_, _, rfl, Qaw rfl (Qab rfl), ?_⟩
   exact ⟨rfl, P⟩
 replace hm := Qc7 c1 hm
 refine qu<|qs 1 rfl<|qm rfl<|Qa1<|Qag ?_
 have Q := (E.kz K5)
 cases hm
 refine ⟨_, _, rfl, Qaw rfl (Qab rfl), ?_⟩
 exact ⟨rfl, Q⟩
theorem Qrt {p0 vp0 zp0 gp0 op0 r} (hm : Qkl p0 = some r) {w : World} (b : Rd w zp0 gp0 op0 18 vp0 (p0.map Qb7.cs)) :
    Calls Tryz.prog 83 [vp0].toArray w fun e w' => ∃ v, e = .returned v ∧ (∃ ur0_s zr0_s gr0_s, v = ur0_s ∧ Own w' zr0_s gr0_s 92 18 ur0_s (r.map Qb7.cs) ∧ Hdn (zr0_s = 0 ∨ w.heap.size ≤ gr0_s) ∧ Gr w w') := by
 unfold Qkl at hm
 refine Qa5 8 Tryz.func83 rfl rfl rfl<|qs 1 rfl<|qm rfl<|Qa1<|Qa4<|Qa4 ?_
 refine qg 2 rfl<|qm rfl ?_
 rcases Xdc b with ⟨d, a, f⟩ | ⟨t, u, d, a⟩
 · replace hm : (some []) = some r := by rw [f] at hm; exact hm
   refine qv rfl (Qsz Tryz.underlying29 rfl a)<|Qa1<|Qk7 rfl<|qs 1 rfl<|qm rfl<|Qa1 ?_
   refine Qag<|Qb3 ?_
   cases hm
   refine ⟨_, _, rfl, Qaw rfl (Qab rfl), ?_⟩
   exact ⟨(.slice none 0 0), 0, 0, rfl, (Qax _ 0 92 18), ⟨.inl rfl⟩, (Gr.refl w)⟩
 skip
 refine qv rfl (Qsz Tryz.underlying29 rfl a)<|Qa1<|Qkx rfl<|qu<|qs 4 rfl ?_
 refine qe rfl (Qdi ([] : List Qb7) Qb7.cs Xjd rfl rfl (Qjs rfl) rfl rfl rfl) ?_
 rintro y w1 ⟨g, s, h, G1⟩
 have z3 := G1.size
 refine qm rfl ?_
 have B5 := (b.gr G1)
 obtain ⟨l1, i, hm⟩ := bnd hm
 refine qe rfl (Qjz (l := ([] : List Qb7)) (m := p0) (c := Qb7.cs) Xmb rfl rfl h B5 i (by decide)) ?_
 rintro j w2 ⟨k, n, o, p, z, q⟩
 refine qm rfl<|Qa1<|Qag ?_
 have X7 := (((Gr.refl w).trans G1).ka p (tk1 ((.inr tk0) : 1 = 0 ∨ w.heap.size ≤ g)))
 cases hm
 refine ⟨_, _, rfl, Qaw rfl (Qab rfl), ?_⟩
 exact ⟨j, k, n, rfl, o, ⟨(Qmc (A := (fun x => w.heap.size ≤ x)) q (.inr tk0))⟩, X7⟩
theorem Qqi {p0 p1 p2 vp1_1 zp1_1 gp1_1 op1_1 vp2_0 zp2_0 gp2_0 op2_0 vp2_2 zp2_2 gp2_2 op2_2 r} (hm : Qjf p0 p1 p2 = some r) {w : World} (z : Rd w zp1_1 gp1_1 op1_1 18 vp1_1 (p1.Labels.map Qb7.cs)) (A : Rd w zp2_0 gp2_0 op2_0 18 vp2_0 (p2.Items.map Qce.cs)) (B : Rd w zp2_2 gp2_2 op2_2 2 vp2_2 (p2.Points.map Qah.cs)) :
    Calls Tryz.prog 25 [.agg (Qa8.cs p0).toArray, .agg (Qaf.cs p1 vp1_1).toArray, .agg (Qa9.cs p2 vp2_0 vp2_2).toArray].toArray w fun e w' => ∃ v, e = .returned v ∧ (v = .tuple [kv r.1, .int .i64 r.2].toArray ∧ Gr w w') := by
 have n := z.lth
 have o := A.lth
 have s := B.lth
 unfold Qjf at hm
 refine Qa5 27 Tryz.func25 rfl rfl rfl<|qs 5 rfl<|qe rfl (Qaq (cs := Qa8.cs p0) rfl rfl) ?_
 rintro _ w1 ⟨b1, rfl, bm, U, G1⟩
 have bI := U.lt
 refine qe rfl (Qaq (cs := Qaf.cs p1 vp1_1) rfl rfl) ?_
 rintro _ w2 ⟨b2, rfl, bo, L, G2⟩
 have bJ := L.lt
 refine qe rfl (Qaq (cs := Qa9.cs p2 vp2_0 vp2_2) rfl rfl) ?_
 rintro _ w3 ⟨b3, rfl, bp, M, G3⟩
 have bK := M.lt
 refine qe rfl (Qa7 (cs := kb k0) Qe8 rfl) ?_
 rintro _ w4 ⟨b4, rfl, bq, C, G4⟩
 have br := C.lt
 refine qm rfl<|qd 8 rfl ?_
 have Y1 := Gr.trans (Gr.trans G2 G3) G4
 have N := (U.gr Y1)
 refine qv rfl (Qa3 Qc3 rfl N rfl)<|Qxa 33 Tryz.func61 rfl rfl rfl Xis rfl rfl rfl rfl rfl<|qs 3 rfl<|qe rfl (Qaq (cs := Qa8.cs p0) rfl rfl) ?_
 rintro _ w5 ⟨b5, rfl, bs, O, G5⟩
 have bu := O.lt
 refine qe rfl (Qa7 (cs := [.nilFunc, .nilFunc, .nilFunc, .nilFunc]) Qg4 rfl) ?_
 rintro _ w6 ⟨b6, rfl, bw, E, G6⟩
 have bx := E.lt
 refine qm rfl<|qd 3 rfl<|qv rfl (Qat (cs := [.func (.func 121) #[] #[], .func (.func 137) #[] #[], .func (.func 53) #[] #[], .func (.func 138) #[] #[]]) Qln rfl rfl)<|qe rfl (Qa7 (cs := [.nilFunc, .nilFunc, .nilFunc, .nilFunc]) Qg4 rfl) ?_
 rintro _ w7 ⟨b7, rfl, bz, V, G7⟩
 have bA := V.lt
 refine qe rfl (Qai Qav rfl rfl rfl V rfl rfl) ?_
 rintro _ w8 ⟨P, M8⟩
 have bL := M8.size
 refine qd 8 rfl<|qv rfl (Qat (cs := [.nilFunc, .nilFunc, .nilFunc, .nilFunc]) Qln rfl rfl)<|qv rfl (Qb6 (vs := [.func (.func 121) #[] #[], .func (.func 137) #[] #[], .func (.func 53) #[] #[], .func (.func 138) #[] #[]]) Qav rfl P rfl rfl)<|qv rfl (Qb6 (vs := [.func (.func 121) #[] #[], .func (.func 137) #[] #[], .func (.func 53) #[] #[], .func (.func 138) #[] #[]]) Qav rfl P rfl rfl)<|qv rfl (Qb6 (vs := [.func (.func 121) #[] #[], .func (.func 137) #[] #[], .func (.func 53) #[] #[], .func (.func 138) #[] #[]]) Qav rfl P rfl rfl) ?_
 refine qv rfl (Qat (cs := [.func (.func 139) #[] #[], .func (.func 140) #[] #[], .func (.func 50) #[] #[], .func (.func 49) #[] #[]]) Qln rfl rfl)<|qv rfl (Qq3 (cs := [.nilFunc, .nilFunc, .nilFunc, .nilFunc, .func (.func 121) #[] #[], .func (.func 137) #[] #[], .func (.func 53) #[] #[], .func (.func 138) #[] #[], .func (.func 121) #[] #[], .func (.func 137) #[] #[], .func (.func 53) #[] #[], .func (.func 138) #[] #[], .func (.func 121) #[] #[], .func (.func 137) #[] #[], .func (.func 53) #[] #[], .func (.func 138) #[] #[], .func (.func 139) #[] #[], .func (.func 140) #[] #[], .func (.func 50) #[] #[], .func (.func 49) #[] #[]]) Xdh rfl rfl)<|qe rfl (Qa7 (cs := [.nilFunc, .nilFunc, .nilFunc, .nilFunc, .nilFunc, .nilFunc, .nilFunc, .nilFunc, .nilFunc, .nilFunc, .nilFunc, .nilFunc, .nilFunc, .nilFunc, .nilFunc, .nilFunc, .nilFunc, .nilFunc, .nilFunc, .nilFunc]) Xaa rfl) ?_
 rintro _ w9 ⟨b9, rfl, bB, W, G9⟩
 have bC := W.lt
 refine qe rfl (Qai Qyb rfl rfl rfl W rfl rfl) ?_
 rintro _ av ⟨I, d⟩
 have bM := d.size
 refine Qa1<|Qa4 ?_
 have Y2 := Gr.trans (Gr.trans (Gr.trans (Gr.trans G1 Y1) G5) G6) G7
 have D := (((((Gr.refl w).trans Y2).md M8).trans G9).md d)
 refine qj (β := Bool) (rg 14 9) (fun a1 => [(22, .bool a1)]) (fun a1 wr => (Qim p0 p1 p2 a1 = some r) ∧ Kz [] av wr) ?_ ?_
 · refine qg 9 rfl<|qv rfl (Qa0 Qhr rfl) ?_
   have Y3 := Gr.trans G6 G7
   have X := ((((O.gr Y3).md M8).gr G9).md d)
   refine qv rfl (Qa2 (v := bv p0.Kind) Qcu rfl X rfl)<|qv rfl (Qt5 (p := p0.Kind) (q := 1#8) rfl rfl)<|qp rfl (Qac rfl) (fun c6 => ?_) (fun c6 => ?_)
   · replace hm := iT c6 hm
     refine qk rfl<|qk rfl<|qk rfl<|qk rfl<|qm rfl<|Qaa ?_
     exact ⟨rfl, true, sbq, hm, kz0⟩
   replace hm := iF c6 hm
   refine qv rfl (Qa0 Qhr rfl)<|qv rfl (Qa2 (v := bv p0.Kind) Qcu rfl X rfl)<|qv rfl (Qwv Qn8 rfl)<|qv rfl (Qeg (a := un8 p0.Kind) (b := 5) rfl rfl)<|qm rfl<|Qaa ?_
   exact ⟨rfl, (decide ((5 : Int) ≤ un8 p0.Kind)), sbq, hm, kz0⟩
 clear hm; rintro a1 bN ⟨hm, c⟩
 have bO := c.size
 unfold Qim at hm
 refine Qam rfl (fun c1 => ?_) (fun c1 => ?_)
 · replace hm := Qc5 c1 hm
   refine qs 3 rfl<|qv rfl (Qat (cs := [.nilFunc, .nilFunc, .nilFunc, .nilFunc]) Qln rfl rfl) ?_
   have aw := (((((E.gr G7).md M8).gr G9).md d).kz c)
   refine qe rfl (Qai Qav rfl rfl rfl aw rfl rfl) ?_
   rintro _ bP ⟨Y, Q⟩
   have bQ := Q.size
   refine qm rfl<|qb<|⟨_, _, rfl, Qbj rfl (Qap Qav rfl Y rfl) (Qab rfl), ?_⟩
   refine qm rfl<|qm rfl<|qm rfl<|qe rfl (Qa7 (cs := [.nilFunc, .nilFunc, .nilFunc, .nilFunc]) Qg4 rfl) ?_
   rintro _ bR ⟨bS, rfl, ax, Z, aa⟩
   refine qe rfl (Qai Qav rfl rfl rfl Z rfl rfl) ?_
   rintro _ bT ⟨bD, ab⟩
   refine qm rfl<|Qa1<|Qa4<|qs 2 rfl<|qm rfl<|qv rfl (Qc1 (a := 2) (b := 0) rfl rfl) ?_
   refine Qa1<|Qk7 rfl<|qs 4 rfl<|qv rfl (Qec Qqj)<|qm rfl ?_
   have Y4 := Gr.trans (Gr.trans G5 G6) G7
   have ay := ((((((((C.gr Y4).md M8).gr G9).md d).kz c).md Q).gr aa).md ab)
   refine qe rfl (Qai Qaj rfl rfl rfl ay rfl rfl) ?_
   rintro _ bU ⟨ac, az⟩
   refine qm rfl<|qb ?_
   have aA := (((((D.kz c).md Q).trans aa).md ab).md az)
   cases hm
   refine ⟨_, _, rfl, Qbj rfl (Qap Qaj rfl ac rfl) (Qab rfl), ?_⟩
   exact ⟨rfl, aA⟩
 replace hm := Qc7 c1 hm
 refine qu<|qs 6 rfl<|qv rfl (Qa0 Qhr rfl) ?_
 have Y5 := Gr.trans G6 G7
 have R := (((((O.gr Y5).md M8).gr G9).md d).kz c)
 refine qv rfl (Qa2 (v := bv p0.Kind) Qcu rfl R rfl) ?_
 by_cases c2 : (un8 p0.Kind = 1 ∨ un8 p0.Kind = 2 ∨ un8 p0.Kind = 3)
 · replace hm := Qy2 c2 hm
   refine qv rfl (Quh Tryz.underlying206 (Qav).siz rfl rfl (by omega)) ?_
   have aB := (I.kz c)
   refine qv rfl (Qb6 (vs := [.func (.func 121) #[] #[], .func (.func 137) #[] #[], .func (.func 53) #[] #[], .func (.func 138) #[] #[]]) Qav rfl aB (by rcases c2 with h | h | h <;> rw [h] <;> rfl) rfl)<|qe rfl (Qa7 (cs := [.nilFunc, .nilFunc, .nilFunc, .nilFunc]) Qg4 rfl) ?_
   rintro _ bV ⟨bW, rfl, aC, J, k⟩
   have bE := J.lt
   refine qe rfl (Qai Qav rfl rfl rfl J rfl rfl) ?_
   rintro _ bX ⟨ad, f⟩
   have bY := f.size
   refine Qa1<|Qa4<|dw [([b6])] [] (.leaf [(0,10),(1,10),(2,10),(3,10),(4,0),(5,0),(6,10)]) ?_
   intro aD S bF
   refine Qal ?_
   have ae := (ad.gr S)
   refine dh 0 rfl rfl (fun w hS => Qb6 (vs := [.func (.func 121) #[] #[], .func (.func 137) #[] #[], .func (.func 53) #[] #[], .func (.func 138) #[] #[]]) Qav rfl (Bx.kp ae hS) rfl rfl)<|dh 0 rfl rfl (fun w hS => Qa0 Qn9 rfl)<|dh 0 rfl rfl (fun w hS => Qa2 (v := .func (.func 121) #[] #[]) Qsg rfl (Bx.kp ae hS) rfl) ?_
   have aE := (((R.gr k).md f).gr S)
   refine dh 0 rfl rfl (fun w hS => Qa3 Qc3 rfl (Bx.kp aE hS) rfl) ?_
   obtain ⟨x2, aF, hm⟩ := bnd hm
   refine qz [] rfl (Qcy Xaq rfl rfl (Qk1 aF)) ⟨fun _ => tk0, trivial⟩ ?_
   rintro _ bZ ⟨rfl, F⟩
   have b0 := F.size
   refine kG F ?_
   have Y6 := Gr.trans S F
   have aG := ((((((((E.gr G7).md M8).gr G9).md d).kz c).gr k).md f).gr Y6)
   refine qz [(1, b6)] rfl (Qai Qav rfl rfl rfl aG rfl rfl) ⟨fun _ => tk0, trivial⟩ ?_
   rintro _ b8 ⟨af, g⟩
   have ca := g.size
   refine kM g ?_
   have aH := (((Kp.refl ([b6]) aD).gr F).md g)
   refine dn 0 rfl rfl aH<|Qa1<|Qag<|⟨_, _, rfl, Qbj rfl (Qap Qav rfl af rfl) (Qab rfl), ?_⟩
   refine qm rfl<|qm rfl<|qm rfl<|qe rfl (Qa7 (cs := [.nilFunc, .nilFunc, .nilFunc, .nilFunc]) Qg4 rfl) ?_
   rintro _ cb ⟨cc, rfl, aI, ag, t⟩
   refine qe rfl (Qai Qav rfl rfl rfl ag rfl rfl) ?_
   rintro _ cd ⟨ah, u⟩
   refine qm rfl<|Qa1<|Qa4<|qs 2 rfl<|qm rfl<|qv rfl (Qc1 (a := x2) (b := 0) rfl rfl) ?_
   refine Qa1<|Qam rfl (fun c3 => ?_) (fun c3 => ?_)
   · replace hm := iT c3 hm
     refine qs 4 rfl<|qv rfl (Qec Qqj)<|qm rfl ?_
     have Y7 := Gr.trans G5 Y5
     have aJ := (((((((((((C.gr Y7).md M8).gr G9).md d).kz c).gr k).md f).gr Y6).md g).gr t).md u)
     refine qe rfl (Qai Qaj rfl rfl rfl aJ rfl rfl) ?_
     rintro _ ce ⟨ai, aK⟩
     refine qm rfl<|qb ?_
     have aL := ((((((((D.kz c).trans k).md f).trans Y6).md g).trans t).md u).md aK)
     cases hm
     refine ⟨_, _, rfl, Qbj rfl (Qap Qaj rfl ai rfl) (Qab rfl), ?_⟩
     exact ⟨rfl, aL⟩
   replace hm := iF c3 hm
   refine qu<|qs 10 rfl<|qv rfl (Qa0 Xda rfl)<|qv rfl (Qa2 (v := .func (.func 53) #[] #[]) Xh4 rfl ah rfl) ?_
   have Y8 := Gr.trans G5 Y5
   have aM := (((((((((((N.gr Y8).md M8).gr G9).md d).kz c).gr k).md f).gr Y6).md g).gr t).md u)
   refine qv rfl (Qa3 Qc3 rfl aM rfl) ?_
   have Y9 := Gr.trans (Gr.trans G3 G4) Y8
   have aN := (((((((((((L.gr Y9).md M8).gr G9).md d).kz c).gr k).md f).gr Y6).md g).gr t).md u)
   refine qv rfl (Qa3 Qe5 rfl aN rfl) ?_
   have aO := Gr.trans G4 Y8
   have aP := (((((((((((M.gr aO).md M8).gr G9).md d).kz c).gr k).md f).gr Y6).md g).gr t).md u)
   refine qv rfl (Qa3 Qc8 rfl aP rfl) ?_
   have aQ := (((((((((((z.gr Y2).md M8 (Qar n)).gr G9).md d (Qar n)).kz c).gr k).md f (Qar n)).gr Y6).md g (Qar n)).gr t).md u (Qar n))
   have aR := (((((((((((A.gr Y2).md M8 (Qar o)).gr G9).md d (Qar o)).kz c).gr k).md f (Qar o)).gr Y6).md g (Qar o)).gr t).md u (Qar o))
   have aS := (((((((((((B.gr Y2).md M8 (Qar s)).gr G9).md d (Qar s)).kz c).gr k).md f (Qar s)).gr Y6).md g (Qar s)).gr t).md u (Qar s))
   obtain ⟨x3, aT, hm⟩ := bnd hm
   refine qe rfl (Qcy Xrl rfl rfl (Quk aT aQ aR aS)) ?_
   rintro _ cf ⟨rfl, aj⟩
   refine qm rfl<|qm rfl ?_
   have aU := ((((((((((((C.gr Y8).md M8).gr G9).md d).kz c).gr k).md f).gr Y6).md g).gr t).md u).gr aj)
   refine qe rfl (Qai Qaj rfl rfl rfl aU rfl rfl) ?_
   rintro _ cg ⟨ak, aV⟩
   refine qm rfl<|Qa1<|Qag ?_
   have aW := (((((((((D.kz c).trans k).md f).trans Y6).md g).trans t).md u).trans aj).md aV)
   cases hm
   refine ⟨_, _, rfl, Qbj rfl (Qap Qaj rfl ak rfl) (Qab rfl), ?_⟩
   exact ⟨rfl, aW⟩
 replace hm := Qxz c2 hm
 by_cases c4 : (un8 p0.Kind = 4)
 · replace hm := Qy2 c4 hm
   refine qv rfl (Quh Tryz.underlying206 (Qav).siz rfl rfl (by omega)) ?_
   have aX := (I.kz c)
   refine qv rfl (Qb6 (vs := [.func (.func 139) #[] #[], .func (.func 140) #[] #[], .func (.func 50) #[] #[], .func (.func 49) #[] #[]]) Qav rfl aX (by rw [c4]; rfl) rfl)<|qe rfl (Qa7 (cs := [.nilFunc, .nilFunc, .nilFunc, .nilFunc]) Qg4 rfl) ?_
   rintro _ ch ⟨ci, rfl, aY, K, l⟩
   have bG := K.lt
   refine qe rfl (Qai Qav rfl rfl rfl K rfl rfl) ?_
   rintro _ cj ⟨al, i⟩
   have ck := i.size
   refine Qa1<|Qa4<|dw [([b6])] [] (.leaf [(0,10),(1,10),(2,10),(3,10),(4,0),(5,0),(6,10)]) ?_
   intro aZ T bH
   refine Qal ?_
   have am := (al.gr T)
   refine dh 0 rfl rfl (fun w hS => Qb6 (vs := [.func (.func 139) #[] #[], .func (.func 140) #[] #[], .func (.func 50) #[] #[], .func (.func 49) #[] #[]]) Qav rfl (Bx.kp am hS) rfl rfl)<|dh 0 rfl rfl (fun w hS => Qa0 Qn9 rfl)<|dh 0 rfl rfl (fun w hS => Qa2 (v := .func (.func 139) #[] #[]) Qsg rfl (Bx.kp am hS) rfl) ?_
   have a0 := (((R.gr l).md i).gr T)
   refine dh 0 rfl rfl (fun w hS => Qa3 Qc3 rfl (Bx.kp a0 hS) rfl) ?_
   obtain ⟨x4, a2, hm⟩ := bnd hm
   refine qz [] rfl (Qcy Xds rfl rfl (Qn5 a2)) ⟨fun _ => tk0, trivial⟩ ?_
   rintro _ cl ⟨rfl, G⟩
   have cm := G.size
   refine kG G ?_
   have m := Gr.trans T G
   have a3 := ((((((((E.gr G7).md M8).gr G9).md d).kz c).gr l).md i).gr m)
   refine qz [(1, b6)] rfl (Qai Qav rfl rfl rfl a3 rfl rfl) ⟨fun _ => tk0, trivial⟩ ?_
   rintro _ cn ⟨an, j⟩
   have co := j.size
   refine kM j ?_
   have a4 := (((Kp.refl ([b6]) aZ).gr G).md j)
   refine dn 0 rfl rfl a4<|Qa1<|Qag<|⟨_, _, rfl, Qbj rfl (Qap Qav rfl an rfl) (Qab rfl), ?_⟩
   refine qm rfl<|qm rfl<|qm rfl<|qe rfl (Qa7 (cs := [.nilFunc, .nilFunc, .nilFunc, .nilFunc]) Qg4 rfl) ?_
   rintro _ cp ⟨cq, rfl, a5, ao, x⟩
   refine qe rfl (Qai Qav rfl rfl rfl ao rfl rfl) ?_
   rintro _ cr ⟨ap, y⟩
   refine qm rfl<|Qa1<|Qa4<|qs 2 rfl<|qm rfl<|qv rfl (Qc1 (a := x4) (b := 0) rfl rfl) ?_
   refine Qa1<|Qam rfl (fun c5 => ?_) (fun c5 => ?_)
   · replace hm := iT c5 hm
     refine qs 4 rfl<|qv rfl (Qec Qqj)<|qm rfl ?_
     have a6 := Gr.trans G5 Y5
     have a7 := (((((((((((C.gr a6).md M8).gr G9).md d).kz c).gr l).md i).gr m).md j).gr x).md y)
     refine qe rfl (Qai Qaj rfl rfl rfl a7 rfl rfl) ?_
     rintro _ ct ⟨aq, a8⟩
     refine qm rfl<|qb ?_
     have a9 := ((((((((D.kz c).trans l).md i).trans m).md j).trans x).md y).md a8)
     cases hm
     refine ⟨_, _, rfl, Qbj rfl (Qap Qaj rfl aq rfl) (Qab rfl), ?_⟩
     exact ⟨rfl, a9⟩
   replace hm := iF c5 hm
   refine qu<|qs 10 rfl<|qv rfl (Qa0 Xda rfl)<|qv rfl (Qa2 (v := .func (.func 50) #[] #[]) Xh4 rfl ap rfl) ?_
   have H := Gr.trans G5 Y5
   have ba := (((((((((((N.gr H).md M8).gr G9).md d).kz c).gr l).md i).gr m).md j).gr x).md y)
   refine qv rfl (Qa3 Qc3 rfl ba rfl) ?_
   have bb := Gr.trans (Gr.trans G3 G4) H
   have bc := (((((((((((L.gr bb).md M8).gr G9).md d).kz c).gr l).md i).gr m).md j).gr x).md y)
   refine qv rfl (Qa3 Qe5 rfl bc rfl) ?_
   have bd := Gr.trans G4 H
   have be := (((((((((((M.gr bd).md M8).gr G9).md d).kz c).gr l).md i).gr m).md j).gr x).md y)
   refine qv rfl (Qa3 Qc8 rfl be rfl) ?_
   have bf := (((((((((((z.gr Y2).md M8 (Qar n)).gr G9).md d (Qar n)).kz c).gr l).md i (Qar n)).gr m).md j (Qar n)).gr x).md y (Qar n))
   have bg := (((((((((((A.gr Y2).md M8 (Qar o)).gr G9).md d (Qar o)).kz c).gr l).md i (Qar o)).gr m).md j (Qar o)).gr x).md y (Qar o))
   have bh := (((((((((((B.gr Y2).md M8 (Qar s)).gr G9).md d (Qar s)).kz c).gr l).md i (Qar s)).gr m).md j (Qar s)).gr x).md y (Qar s))
   obtain ⟨x5, bi, hm⟩ := bnd hm
   refine qe rfl (Qcy Xre rfl rfl (Qvm bi bf bg bh)) ?_
   rintro _ cu ⟨rfl, ar⟩
   refine qm rfl<|qm rfl ?_
   have bj := ((((((((((((C.gr H).md M8).gr G9).md d).kz c).gr l).md i).gr m).md j).gr x).md y).gr ar)
   refine qe rfl (Qai Qaj rfl rfl rfl bj rfl rfl) ?_
   rintro _ cv ⟨au, bk⟩
   refine qm rfl<|Qa1<|Qag ?_
   have bl := (((((((((D.kz c).trans l).md i).trans m).md j).trans x).md y).trans ar).md bk)
   cases hm
   refine ⟨_, _, rfl, Qbj rfl (Qap Qaj rfl au rfl) (Qab rfl), ?_⟩
   exact ⟨rfl, bl⟩
 replace hm := Qxz c4 hm
 cases hm
theorem Qza {p0 p1 p2 p3 p4 bp2 vp2_1 zp2_1 gp2_1 op2_1 vp3_2 zp3_2 gp3_2 op3_2 vp3_4 zp3_4 gp3_4 op3_4 vp3_39 zp3_39 gp3_39 op3_39 r} (hm : Qs9 p0 p1 p2 p3 p4 = some r) {w : World} (hbp2 : Bx w bp2 78 (Qad.cs p2 vp2_1)) (j : Rd w zp2_1 gp2_1 op2_1 18 vp2_1 (p2.Secret.Labels.map Qb7.cs)) (f : Rd w zp3_2 gp3_2 op3_2 18 vp3_2 (p3.Head.Items.map Qce.cs)) (g : Rd w zp3_4 gp3_4 op3_4 2 vp3_4 (p3.Head.Points.map Qah.cs)) (p : Rd w zp3_39 gp3_39 op3_39 1 vp3_39 (p3.Data.map bvc)) (aR : Hdn (zp2_1 = 0 ∨ gp2_1 ≠ bp2)) (aS : Hdn (zp3_2 = 0 ∨ gp3_2 ≠ bp2)) (aT : Hdn (zp3_4 = 0 ∨ gp3_4 ≠ bp2)) (aU : Hdn (zp3_39 = 0 ∨ gp3_39 ≠ bp2)) :
    Calls Tryz.prog 84 [.agg (Qa8.cs p0).toArray, .agg (Qfs.cs p1).toArray, .pointer (some ⟨bp2, 0, none⟩), .agg (Qak.cs p3 vp3_2 vp3_4 vp3_39).toArray, .int .i64 p4].toArray w fun e w' => ∃ v, e = .returned v ∧ (v = .int .i64 r.1 ∧ Bx w' bp2 78 (Qad.cs r.2 vp2_1) ∧ Kz [(1, bp2)] w w') := by
 unfold Qs9 at hm
 refine Qa5 66 Tryz.func84 rfl rfl rfl<|qs 4 rfl<|qe rfl (Qaq (cs := Qa8.cs p0) rfl rfl) ?_
 rintro _ w1 ⟨b1, rfl, aM, U, G1⟩
 refine qe rfl (Qaq (cs := Qfs.cs p1) rfl rfl) ?_
 rintro _ w2 ⟨b2, rfl, aN, V, G2⟩
 refine qe rfl (Qaq (cs := Qak.cs p3 vp3_2 vp3_4 vp3_39) rfl rfl) ?_
 rintro _ w3 ⟨b3, rfl, aO, W, G3⟩
 refine qm rfl<|Qa1<|Qa4<|dw [([])] [] (.leaf [(0,10),(1,10),(2,10),(3,10),(4,10),(5,10),(6,10),(7,10)]) ?_
 intro w4 G4 aV
 refine Qal<|dm 0 rfl rfl<|dh 0 rfl rfl (fun w hS => Qa0 Qqe rfl) ?_
 have k := (W.gr G4)
 refine dh 0 rfl rfl (fun w hS => Qa2 (v := .int .i64 p3.Epoch) Qay rfl (Bx.kp k hS) rfl) ?_
 obtain ⟨x1, X, hm⟩ := bnd hm
 refine dh 0 rfl rfl (fun w hS => Qk0 (a := p3.Epoch) (b := 2) rfl rfl X)<|dh 0 rfl rfl (fun w hS => Qfg rfl rfl)<|dh 0 rfl rfl (fun w hS => Qa0 Xc9 rfl) ?_
 obtain ⟨y2, n, hm⟩ := bnd hm
 refine dh 0 rfl rfl (fun w hS => Xkx (l := [p2.Slots.a0, p2.Slots.a1]) (i := x1) Tryz.underlying76 (Qpm).siz rfl rfl n rfl)<|dm 0 rfl rfl<|Qa1<|Qa4<|qs 6 rfl ?_
 have Y1 := Gr.trans G3 G4
 have Y := (V.gr Y1)
 refine qv rfl (Qa3 Qht rfl Y rfl)<|qm rfl<|qv rfl (Qa0 Qqe rfl)<|qv rfl (Qa2 (v := .int .i64 p3.Epoch) Qay rfl k rfl) ?_
 obtain ⟨x3, Z, hm⟩ := bnd hm
 refine qe rfl (eC Xqb rfl (Qrd Z)) ?_
 rintro _ w5 ⟨rfl, G5⟩
 refine qv rfl (Qcl rfl)<|Qa1<|Qam rfl (fun c1 => ?_) (fun c1 => ?_)
 · replace hm := Qc5 c1 hm
   refine qs 1 rfl<|qm rfl<|qb ?_
   have Y2 := Gr.trans (Gr.trans (Gr.trans G1 G2) Y1) G5
   have aa := (hbp2.gr Y2)
   have ab := ((Kz.refl [(1, bp2)] w).gr Y2)
   cases hm
   refine ⟨_, _, rfl, Qaw rfl (Qab rfl), ?_⟩
   exact ⟨rfl, aa, ab⟩
 replace hm := Qc7 c1 hm
 refine qu<|Qa4 ?_
 have Y3 := Gr.trans (Gr.trans (Gr.trans G1 G2) Y1) G5
 have H := ((Kz.refl [(1, bp2)] w).gr Y3)
 refine qj (β := Bool) (rg 27 13) (fun a4 => [(39, .bool a4)]) (fun a4 wr => (Ql1 p0 p2 p3 x1 a4 = some r) ∧ Kz [] w5 wr) ?_ ?_
 · refine dw [([])] [] (.leaf [(0,10),(1,10),(2,10),(3,10),(4,10),(5,10),(6,10),(7,10),(8,10),(9,10),(10,10),(11,10),(12,10)]) ?_
   intro ac s aP
   refine Qal<|dm 0 rfl rfl<|dh 0 rfl rfl (fun w hS => Qfg rfl rfl)<|dh 0 rfl rfl (fun w hS => Qa0 Qvw rfl) ?_
   have I := ((hbp2.gr Y3).gr s)
   refine dh 0 rfl rfl (fun w hS => Qkj (q := 0) (u := .bool y2.Full) Xcf rfl (Xd5 (o := 5) (sz := 18) (xs := [p2.Slots.a0, p2.Slots.a1].map Qbl.cs) (m := 2) (cap := 2) (Bx.kp I hS) (Qjk _ (fun _ => rfl) (fun _ => rfl)) rfl rfl) n (by first | rfl | omega) rfl)<|qqF 0 rfl rfl (Kp.refl ([]) ac) (fun w hS => Qac rfl) (fun c5 => ?_) (fun c5 => ?_)
   · replace hm := Qc7 c5 hm
     refine dx 0 rfl rfl<|dx 0 rfl rfl<|dx 0 rfl rfl<|dx 0 rfl rfl<|dx 0 rfl rfl<|dx 0 rfl rfl<|dx 0 rfl rfl ?_
     refine dm 0 rfl rfl<|Qaa ?_
     exact ⟨rfl, false, sbq, hm, (kz0.gr s)⟩
   replace hm := Qc5 c5 hm
   refine dm 0 rfl rfl<|dh 0 rfl rfl (fun w hS => Qfg rfl rfl)<|dh 0 rfl rfl (fun w hS => Qa0 Qyq rfl)<|dh 0 rfl rfl (fun w hS => Qkj (q := 1) (u := .int .i64 y2.Epoch) Qay rfl (Xd5 (o := 5) (sz := 18) (xs := [p2.Slots.a0, p2.Slots.a1].map Qbl.cs) (m := 2) (cap := 2) (Bx.kp I hS) (Qjk _ (fun _ => rfl) (fun _ => rfl)) rfl rfl) n (by first | rfl | omega) rfl)<|dh 0 rfl rfl (fun w hS => Qa0 Qqe rfl) ?_
   have ad := ((k.gr G5).gr s)
   refine dh 0 rfl rfl (fun w hS => Qa2 (v := .int .i64 p3.Epoch) Qay rfl (Bx.kp ad hS) rfl)<|dh 0 rfl rfl (fun w hS => Qeg (a := y2.Epoch) (b := p3.Epoch) rfl rfl)<|dm 0 rfl rfl<|Qaa ?_
   exact ⟨rfl, (decide (p3.Epoch ≤ y2.Epoch)), sbq, hm, (kz0.gr s)⟩
 clear hm; rintro a4 w6 ⟨hm, K6⟩
 unfold Ql1 at hm
 refine Qam rfl (fun c2 => ?_) (fun c2 => ?_)
 · replace hm := Qc5 c2 hm
   refine qs 1 rfl<|qm rfl<|qb ?_
   have ae := ((hbp2.gr Y3).kz K6)
   have af := (H.kz K6)
   cases hm
   refine ⟨_, _, rfl, Qaw rfl (Qab rfl), ?_⟩
   exact ⟨rfl, ae, af⟩
 replace hm := Qc7 c2 hm
 refine qu ?_
 have A := (H.kz K6)
 refine qj (β := W2 × Int × Nat) ([12, 13] ++ rg 40 11) (fun ⟨a6, a7, bq5⟩ => [(12, .pointer (some ⟨bq5, 0, none⟩)), (13, .int .i64 a7)]) (fun ⟨a6, a7, bq5⟩ wr => (Qny p2 p3 x1 a6 a7 = some r) ∧ Bx wr bq5 23 (kb a6) ∧ w6.heap.size ≤ bq5 ∧ Kz [] w6 wr) ?_ ?_
 · refine dw [([])] [] (.fork [(0,10),(1,10),(2,10),(3,10),(4,10),(5,10),(6,10)] (.leaf [(7,0),(8,10),(9,10),(10,10),(11,0),(12,0),(13,10)]) (.leaf [(11,0),(7,0),(8,10),(9,10),(10,10),(12,0),(13,10)])) ?_
   intro J d aQ
   refine Qbb ?_
   have Y4 := Gr.trans (Gr.trans G2 Y1) G5
   have ag := (((U.gr Y4).kz K6).gr d)
   refine dh 0 rfl rfl (fun w hS => Qa3 Qc3 rfl (Bx.kp ag hS) rfl)<|dm 0 rfl rfl<|dh 0 rfl rfl (fun w hS => Qfg rfl rfl)<|dh 0 rfl rfl (fun w hS => Qa0 Qwg rfl) ?_
   have ah := (((hbp2.gr Y3).kz K6).gr d)
   refine dh 0 rfl rfl (fun w hS => Qb6 (vs := Qaf.cs p2.Secret vp2_1) Qe5 rfl (Bx.kp ah hS) rfl rfl)<|dh 0 rfl rfl (fun w hS => Qa0 Qmu rfl) ?_
   have ai := (((k.gr G5).kz K6).gr d)
   refine dh 0 rfl rfl (fun w hS => Qb6 (vs := Qa9.cs p3.Head vp3_2 vp3_4) Qc8 rfl (Bx.kp ai hS) rfl rfl)<|Qbq ?_ ?_
   · refine Qal ?_
     have aj := (((j.gr Y3).kz K6).gr d)
     have ak := (((f.gr Y3).kz K6).gr d)
     have al := (((g.gr Y3).kz K6).gr d)
     obtain ⟨x9, am, hm⟩ := bnd hm
     refine qz [] rfl (eC Xmr rfl (Qqi am aj ak al)) ⟨fun _ => tk0, trivial⟩ ?_
     rintro _ aW ⟨rfl, t⟩
     have aX := t.size
     refine kG t ?_
     have x := ((Kp.refl ([]) J).gr t)
     refine dn 0 rfl rfl x<|dn 0 rfl rfl x<|dn 0 rfl rfl x<|qz [] rfl (Qa7 (cs := kb k0) Qe8 rfl) ⟨fun _ => tk0, trivial⟩ ?_
     rintro _ aY ⟨K, rfl, an, L, B⟩
     refine kG B<|qz [(1, K)] rfl (Qai Qaj rfl rfl rfl L rfl rfl) ⟨fun _ => tk0, trivial⟩ ?_
     rintro _ aZ ⟨M, C⟩
     refine kM C ?_
     have ao := ((x.gr B).md C)
     refine dn 0 rfl rfl ao<|Qaa ?_
     exact ⟨rfl, ⟨x9.1, x9.2, K⟩, sbq, hm, M, (by omega), ((((kz0.gr d).gr t).gr B).md C)⟩
   refine Qal<|qz [] rfl (Qa7 (cs := kb k0) Qe8 rfl) ⟨fun _ => tk0, trivial⟩ ?_
   rintro _ a2 ⟨N, rfl, ap, O, D⟩
   refine kG D ?_
   have Y5 := Gr.trans d D
   have aq := (((j.gr Y3).kz K6).gr Y5)
   have ar := (((f.gr Y3).kz K6).gr Y5)
   have au := (((g.gr Y3).kz K6).gr Y5)
   obtain ⟨P, Q, hm⟩ := bnd hm
   refine qz [] rfl (eC Xmr rfl (Qqi Q aq ar au)) ⟨fun _ => tk0, trivial⟩ ?_
   rintro _ a3 ⟨rfl, y⟩
   refine kG y ?_
   have z := (((Kp.refl ([]) J).gr D).gr y)
   refine dn 0 rfl rfl z<|dn 0 rfl rfl z<|dn 0 rfl rfl z ?_
   have av := (O.gr y)
   refine qz [(1, N)] rfl (Qai Qaj rfl rfl rfl av rfl rfl) ⟨fun _ => tk0, trivial⟩ ?_
   rintro _ a5 ⟨R, E⟩
   refine kM E ?_
   have aw := (z.md E)
   refine dn 0 rfl rfl aw<|Qaa ?_
   exact ⟨rfl, ⟨P.1, P.2, N⟩, sbq, hm, R, (by omega), (((kz0.gr Y5).gr y).md E)⟩
 clear hm; rintro ⟨a6, a7, bq5⟩ w7 ⟨hm, F, ax, K7⟩
 unfold Qny at hm
 refine Qa4<|qs 2 rfl<|qm rfl<|qv rfl (Qc1 (a := a7) (b := 0) rfl rfl)<|Qa1<|Qam rfl (fun c3 => ?_) (fun c3 => ?_)
 · replace hm := iT c3 hm
   refine qs 2 rfl<|qm rfl<|qm rfl<|Qa1<|Qag<|Qb3 ?_
   have ay := (((hbp2.gr Y3).kz K6).kz K7)
   have az := (A.kz K7)
   cases hm
   refine ⟨_, _, rfl, Qaw rfl (Qab rfl), ?_⟩
   exact ⟨rfl, ay, az⟩
 replace hm := iF c3 hm
 refine qu<|Qa4<|Qa4<|dw [([])] [] (.leaf [(0,10),(1,10),(3,10),(4,10),(2,0),(5,10)]) ?_
 intro w8 G8 a8
 refine Qal ?_
 have S := (F.gr G8)
 refine dh 0 rfl rfl (fun w hS => Qa3 Qaj rfl (Bx.kp S hS) rfl) ?_
 have G := ((((k.gr G5).kz K6).kz K7).gr G8)
 refine dh 0 rfl rfl (fun w hS => Qa3 Qcs rfl (Bx.kp G hS) rfl)<|dh 0 rfl rfl (fun w hS => Qa0 Qyj rfl)<|dh 0 rfl rfl (fun w hS => Qb6 (vs := kb p3.Mac) Qaj rfl (Bx.kp G hS) rfl rfl) ?_
 have aA := ((((f.gr Y3).kz K6).kz K7).gr G8)
 have aB := ((((g.gr Y3).kz K6).kz K7).gr G8)
 have aC := ((((p.gr Y3).kz K6).kz K7).gr G8)
 obtain ⟨x8, aD, hm⟩ := bnd hm
 refine qz [] rfl (eC Xpy rfl (Qpz aD aA aB aC)) ⟨fun _ => tk0, trivial⟩ ?_
 rintro _ w9 ⟨rfl, G9⟩
 refine kG G9 ?_
 have aE := ((Kp.refl ([]) w8).gr G9)
 refine qh 0 rfl rfl aE (fun w hS => Qmi (cf := kb) (a := x8) (b := p3.Mac) Qpp rfl rfl rfl rfl (fun h => Qmf h))<|Qa1<|Qam rfl (fun c4 => ?_) (fun c4 => ?_)
 · replace hm := iT c4 hm
   refine qs 1 rfl<|qm rfl<|qb ?_
   have Y6 := Gr.trans G8 G9
   have aF := ((((hbp2.gr Y3).kz K6).kz K7).gr Y6)
   have aG := ((A.kz K7).gr Y6)
   cases hm
   refine ⟨_, _, rfl, Qaw rfl (Qab rfl), ?_⟩
   exact ⟨rfl, aF, aG⟩
 replace hm := iF c4 hm
 refine qu<|qs 7 rfl<|qm rfl<|qv rfl (Qa0 Qqe rfl) ?_
 have aH := (G.gr G9)
 refine qv rfl (Qa2 (v := .int .i64 p3.Epoch) Qay rfl aH rfl) ?_
 have aI := (S.gr G9)
 refine qv rfl (Qa3 Qaj rfl aI rfl)<|qv rfl (Qat (cs := Qbl.cs (Qbl.mk true p3.Epoch a6)) Xo5 rfl (Qk9 rfl rfl rfl (Qk9 rfl rfl rfl (Qk9 rfl rfl rfl (by kernel_rfl)))))<|qv rfl (Qfg rfl rfl) ?_
 have Y7 := Gr.trans G8 G9
 have aJ := ((((hbp2.gr Y3).kz K6).kz K7).gr Y7)
 refine qe rfl (Xmu (sz := 18) (o := 5) (q := 0) (l := [p2.Slots.a0, p2.Slots.a1]) (c := Qbl.cs) (a' := (Qbl.mk true p3.Epoch a6)) (vs := Qbl.cs (Qbl.mk true p3.Epoch a6)) (cs' := Qad.cs (Qad.mk p2.Secret p2.Ahead (Qbg.mk (if x1 = 0 then (Qbl.mk true p3.Epoch a6) else p2.Slots.a0) (if x1 = 0 then p2.Slots.a1 else (Qbl.mk true p3.Epoch a6)))) vp2_1) (Qpm).siz rfl rfl rfl rfl rfl aJ (Qjk _ (fun _ => rfl) (fun _ => rfl)) rfl rfl n (by first | rfl | omega) rfl rfl (Xv3 n) rfl) ?_
 rintro _ a9 ⟨T, aK⟩
 refine qd 1 rfl<|qm rfl<|Qa1<|Qag ?_
 have aL := (((A.kz K7).gr Y7).md aK)
 cases hm
 refine ⟨_, _, rfl, Qaw rfl (Qab rfl), ?_⟩
 exact ⟨rfl, T, aL⟩
theorem Xas {p0 p1 p2 p3 vp1_1 zp1_1 gp1_1 op1_1 vp2_2 zp2_2 gp2_2 op2_2 vp2_4 zp2_4 gp2_4 op2_4 vp2_39 zp2_39 gp2_39 op2_39 r} (hm : Qtq p0 p1 p2 p3 = some r) {w : World} (aL : Rd w zp1_1 gp1_1 op1_1 18 vp1_1 (p1.Secret.Labels.map Qb7.cs)) (j : Rd w zp2_2 gp2_2 op2_2 18 vp2_2 (p2.Head.Items.map Qce.cs)) (k : Rd w zp2_4 gp2_4 op2_4 2 vp2_4 (p2.Head.Points.map Qah.cs)) (c : Rd w zp2_39 gp2_39 op2_39 1 vp2_39 (p2.Data.map bvc)) :
    Calls Tryz.prog 85 [.agg (Qfs.cs p0).toArray, .agg (Qad.cs p1 vp1_1).toArray, .agg (Qak.cs p2 vp2_2 vp2_4 vp2_39).toArray, .int .i64 p3].toArray w fun e w' => ∃ v, e = .returned v ∧ (∃ ur0_s zr0_s gr0_s, v = .tuple [ur0_s, .int .i64 r.2].toArray ∧ Own w' zr0_s gr0_s 5 1 ur0_s (r.1.map bvc) ∧ Hdn (zr0_s = 0 ∨ w.heap.size ≤ gr0_s) ∧ Gr w w') := by
 have E := j.lth
 have F := k.lth
 have p := c.lth
 unfold Qtq at hm
 refine Qa5 74 Tryz.func85 rfl rfl rfl<|qs 5 rfl<|qe rfl (Qaq (cs := Qfs.cs p0) rfl rfl) ?_
 rintro _ w1 ⟨b1, rfl, bm, ah, G1⟩
 have bA := ah.lt
 refine qe rfl (Qaq (cs := Qad.cs p1 vp1_1) rfl rfl) ?_
 rintro _ w2 ⟨b2, rfl, bo, ai, G2⟩
 have bB := ai.lt
 refine qe rfl (Qaq (cs := Qak.cs p2 vp2_2 vp2_4 vp2_39) rfl rfl) ?_
 rintro _ w3 ⟨b3, rfl, bp, G, G3⟩
 have bq := G.lt
 refine qm rfl<|qm rfl<|qd 10 rfl ?_
 have Y1 := Gr.trans G2 G3
 have aj := (ah.gr Y1)
 refine qv rfl (Qa3 Qht rfl aj rfl)<|qm rfl<|qv rfl (Qa0 Qyn rfl)<|qv rfl (Qa2 (v := bv p2.Low) Qcu rfl G rfl) ?_
 obtain ⟨x1, aM, hm⟩ := bnd hm
 refine qe rfl (eC Xs3 rfl (Qr6 aM)) ?_
 rintro _ w4 ⟨rfl, G4⟩
 have bC := G4.size
 refine qm rfl<|qm rfl<|qm rfl<|qm rfl<|qm rfl<|Qa1<|Qa4 ?_
 refine qs 2 rfl<|qm rfl<|qv rfl (Qcl rfl)<|Qa1<|Qam rfl (fun c1 => ?_) (fun c1 => ?_)
 · replace hm := Qc5 c1 hm
   refine qs 2 rfl<|qm rfl<|qm rfl<|Qa1<|Qag<|Qb3 ?_
   have Y2 := Gr.trans (Gr.trans G1 Y1) G4
   have aN := ((Gr.refl w).trans Y2)
   cases hm
   refine ⟨_, _, rfl, Qbj rfl (Qab rfl) (Qab rfl), ?_⟩
   exact ⟨(.slice none 0 0), 0, 0, rfl, (Qax _ 0 5 1), ⟨.inl rfl⟩, aN⟩
 replace hm := Qc7 c1 hm
 refine qu<|qs 8 rfl<|qm rfl<|qv rfl (Qa0 Qj7 rfl) ?_
 have ak := (aj.gr G4)
 refine qv rfl (Qa2 (v := .int .i64 p0.Epoch) Qay rfl ak rfl)<|qv rfl (Qa0 Qir rfl)<|qv rfl (Qa2 (v := .int .i64 p0.Word) Qay rfl ak rfl) ?_
 obtain ⟨x2, aO, hm⟩ := bnd hm
 refine qv rfl (Qnn (a := p0.Epoch) (b := p0.Word) rfl rfl aO) ?_
 obtain ⟨x3, aP, hm⟩ := bnd hm
 refine qv rfl (Qnn (a := x1.1) (b := x2) rfl rfl aP)<|qm rfl<|qd 7 rfl<|qm rfl ?_
 obtain ⟨x4, aQ, hm⟩ := bnd hm
 refine qv rfl (Qk0 (a := x3) (b := 2) rfl rfl aQ)<|qv rfl (Qa0 Xc9 rfl) ?_
 obtain ⟨y5, al, hm⟩ := bnd hm
 refine qv rfl (Xkx (l := [p1.Slots.a0, p1.Slots.a1]) (i := x4) Tryz.underlying76 (Qpm).siz rfl rfl al rfl) ?_
 have Y3 := Gr.trans G3 G4
 have aR := (ai.gr Y3)
 refine qv rfl (Qhs Qpm rfl (Xd5 (o := 5) (sz := 18) (xs := [p1.Slots.a0, p1.Slots.a1].map Qbl.cs) (m := 2) (cap := 2) aR (Qjk _ (fun _ => rfl) (fun _ => rfl)) rfl rfl) al (by first | rfl | omega))<|qe rfl (Qa7 (cs := Qbl.cs (Qbl.mk false 0 k0)) Xoi rfl) ?_
 rintro _ w5 ⟨b5, rfl, br, am, G5⟩
 have bs := am.lt
 refine qe rfl (Qai Qpm rfl rfl rfl am rfl rfl) ?_
 rintro _ w6 ⟨Q, M6⟩
 have bD := M6.size
 refine Qa1<|Qa4 ?_
 have Y4 := Gr.trans (Gr.trans (Gr.trans G1 Y1) G4) G5
 have an := (((Gr.refl w).trans Y4).md M6)
 refine qj (β := Bool) (rg 39 9) (fun a6 => [(47, .bool a6)]) (fun a6 wr => (Qm3 p2 x1 y5 a6 = some r) ∧ Kz [] w6 wr) ?_ ?_
 · refine qg 9 rfl<|qv rfl (Qa0 Qvw rfl)<|qv rfl (Qa2 (v := .bool y5.Full) Xcf rfl Q rfl)<|qv rfl (Qcl rfl)<|qp rfl (Qac rfl) (fun c5 => ?_) (fun c5 => ?_)
   · replace hm := Qc5 c5 hm
     refine qk rfl<|qk rfl<|qk rfl<|qk rfl<|qm rfl<|Qaa ?_
     exact ⟨rfl, true, sbq, hm, kz0⟩
   replace hm := Qc7 c5 hm
   refine qv rfl (Qa0 Qyq rfl)<|qv rfl (Qa2 (v := .int .i64 y5.Epoch) Qay rfl Q rfl)<|qm rfl<|qv rfl (Qc1 (a := y5.Epoch) (b := x3) rfl rfl)<|qm rfl<|Qaa ?_
   exact ⟨rfl, (decide (y5.Epoch ≠ x3)), sbq, hm, kz0⟩
 clear hm; rintro a6 w7 ⟨hm, K7⟩
 have bE := K7.size
 unfold Qm3 at hm
 refine Qam rfl (fun c2 => ?_) (fun c2 => ?_)
 · replace hm := Qc5 c2 hm
   refine qs 2 rfl<|qm rfl<|qm rfl<|Qa1<|Qag<|Qb3 ?_
   have aS := (an.kz K7)
   cases hm
   refine ⟨_, _, rfl, Qbj rfl (Qab rfl) (Qab rfl), ?_⟩
   exact ⟨(.slice none 0 0), 0, 0, rfl, (Qax _ 0 5 1), ⟨.inl rfl⟩, aS⟩
 replace hm := Qc7 c2 hm
 refine qu<|qs 6 rfl<|qv rfl (Qa0 Xo9 rfl) ?_
 have aT := (Q.kz K7)
 refine qv rfl (Qb6 (vs := kb y5.Key) Qaj rfl aT rfl rfl)<|qm rfl ?_
 obtain ⟨x7, aU, hm⟩ := bnd hm
 refine qe rfl (eC Xjc rfl (Qna aU)) ?_
 rintro _ w8 ⟨rfl, G8⟩
 have bF := G8.size
 refine qe rfl (Qa7 (cs := kb k0) Qe8 rfl) ?_
 rintro _ w9 ⟨b9, rfl, bu, ao, G9⟩
 have bw := ao.lt
 refine qe rfl (Qai Qaj rfl rfl rfl ao rfl rfl) ?_
 rintro _ ap ⟨P, d⟩
 have bG := d.size
 refine Qa1 ?_
 have Y5 := Gr.trans G8 G9
 have R := (((an.kz K7).trans Y5).md d)
 refine qj (β := W2 × Int × Nat) ([15, 16] ++ rg 52 7) (fun ⟨a9, D, bq8⟩ => [(15, .pointer (some ⟨bq8, 0, none⟩)), (16, .int .i64 D)]) (fun ⟨a9, D, bq8⟩ wr => (Qov p2 x7 a9 D = some r) ∧ Bx wr bq8 23 (kb a9) ∧ ap.heap.size ≤ bq8 ∧ Kz [] ap wr) ?_ ?_
 · refine dw [([])] [] (.fork [(0,10),(1,10)] (.fork [(2,0)] (.leaf [(3,0),(4,10),(5,10),(6,10),(7,0),(8,0),(9,10)]) (.leaf [(7,0),(3,0),(4,10),(5,10),(6,10),(8,0),(9,10)])) (.leaf [(7,0),(2,0),(3,0),(4,10),(5,10),(6,10),(8,0),(9,10)])) ?_
   intro S g bx
   refine Qbb ?_
   have aV := (P.gr g)
   refine dh 0 rfl rfl (fun w hS => Qa3 Qaj rfl (Bx.kp aV hS) rfl) ?_
   have Y6 := Gr.trans G4 G5
   have aW := ((((((G.gr Y6).md M6).kz K7).gr Y5).md d).gr g)
   refine dh 0 rfl rfl (fun w hS => Qa3 Qcs rfl (Bx.kp aW hS) rfl)<|Qbq ?_ ?_
   · refine Qbb ?_
     have aX := ((((((j.gr Y4).md M6 (Qar E)).kz K7).gr Y5).md d (Qar E)).gr g)
     have aY := ((((((k.gr Y4).md M6 (Qar F)).kz K7).gr Y5).md d (Qar F)).gr g)
     have aZ := ((((((c.gr Y4).md M6 (Qar p)).kz K7).gr Y5).md d (Qar p)).gr g)
     obtain ⟨bH, aq, hm⟩ := bnd hm
     refine qz [] rfl (eC Xeq rfl (Qjn aq aX aY aZ)) ⟨fun _ => tk0, trivial⟩ ?_
     rintro Z bI ⟨_, aa, ab, rfl, f, ac, q⟩
     have bJ := q.size
     refine kG q<|Qbq ?_ ?_
     · refine Qal ?_
       obtain ⟨ar, au, hm⟩ := bnd hm
       refine qz [] rfl (eC Xa0 rfl (Qgv au (Own.rd f))) ⟨fun _ => tk0, trivial⟩ ?_
       rintro _ bK ⟨rfl, H⟩
       have bL := H.size
       refine kG H ?_
       have I := (((Kp.refl ([]) S).gr q).gr H)
       refine dn 0 rfl rfl I<|dn 0 rfl rfl I<|dn 0 rfl rfl I<|qz [] rfl (Qa7 (cs := kb k0) Qe8 rfl) ⟨fun _ => tk0, trivial⟩ ?_
       rintro _ bM ⟨av, rfl, a2, aw, T⟩
       refine kG T<|qz [(1, av)] rfl (Qai Qaj rfl rfl rfl aw rfl rfl) ⟨fun _ => tk0, trivial⟩ ?_
       rintro _ bN ⟨ax, U⟩
       refine kM U ?_
       have a3 := ((I.gr T).md U)
       refine dn 0 rfl rfl a3<|Qaa ?_
       exact ⟨rfl, ⟨ar.1, ar.2, av⟩, sbq, hm, ax, (by omega), (((((kz0.gr g).gr q).gr H).gr T).md U)⟩
     refine Qal<|qz [] rfl (Qa7 (cs := kb k0) Qe8 rfl) ⟨fun _ => tk0, trivial⟩ ?_
     rintro _ bO ⟨ay, rfl, a4, az, J⟩
     refine kG J ?_
     have a5 := (f.gr J)
     obtain ⟨aA, aB, hm⟩ := bnd hm
     refine qz [] rfl (eC Xa0 rfl (Qgv aB (Own.rd a5))) ⟨fun _ => tk0, trivial⟩ ?_
     rintro _ bP ⟨rfl, K⟩
     refine kG K ?_
     have L := ((((Kp.refl ([]) S).gr q).gr J).gr K)
     refine dn 0 rfl rfl L<|dn 0 rfl rfl L<|dn 0 rfl rfl L ?_
     have a7 := (az.gr K)
     refine qz [(1, ay)] rfl (Qai Qaj rfl rfl rfl a7 rfl rfl) ⟨fun _ => tk0, trivial⟩ ?_
     rintro _ bQ ⟨aC, V⟩
     refine kM V ?_
     have a8 := (L.md V)
     refine dn 0 rfl rfl a8<|Qaa ?_
     exact ⟨rfl, ⟨aA.1, aA.2, ay⟩, sbq, hm, aC, (by omega), (((((kz0.gr g).gr q).gr J).gr K).md V)⟩
   refine Qal<|qz [] rfl (Qa7 (cs := kb k0) Qe8 rfl) ⟨fun _ => tk0, trivial⟩ ?_
   rintro _ bR ⟨aD, rfl, ba, aE, W⟩
   refine kG W ?_
   have Y7 := Gr.trans g W
   have bb := ((((((j.gr Y4).md M6 (Qar E)).kz K7).gr Y5).md d (Qar E)).gr Y7)
   have bc := ((((((k.gr Y4).md M6 (Qar F)).kz K7).gr Y5).md d (Qar F)).gr Y7)
   have bd := ((((((c.gr Y4).md M6 (Qar p)).kz K7).gr Y5).md d (Qar p)).gr Y7)
   obtain ⟨bS, aF, hm⟩ := bnd hm
   refine qz [] rfl (eC Xeq rfl (Qjn aF bb bc bd)) ⟨fun _ => tk0, trivial⟩ ?_
   rintro ad bT ⟨_, ae, af, rfl, s, ag, M⟩
   refine kG M ?_
   obtain ⟨aG, aH, hm⟩ := bnd hm
   refine qz [] rfl (eC Xa0 rfl (Qgv aH (Own.rd s))) ⟨fun _ => tk0, trivial⟩ ?_
   rintro _ bU ⟨rfl, N⟩
   refine kG N ?_
   have O := ((((Kp.refl ([]) S).gr W).gr M).gr N)
   refine dn 0 rfl rfl O<|dn 0 rfl rfl O<|dn 0 rfl rfl O ?_
   have be := ((aE.gr M).gr N)
   refine qz [(1, aD)] rfl (Qai Qaj rfl rfl rfl be rfl rfl) ⟨fun _ => tk0, trivial⟩ ?_
   rintro _ bV ⟨aI, X⟩
   refine kM X ?_
   have bf := (O.md X)
   refine dn 0 rfl rfl bf<|Qaa ?_
   exact ⟨rfl, ⟨aG.1, aG.2, aD⟩, sbq, hm, aI, (by omega), ((((kz0.gr Y7).gr M).gr N).md X)⟩
 clear hm; rintro ⟨a9, D, bq8⟩ bW ⟨hm, n, aK, t⟩
 have bz := n.lt
 unfold Qov at hm
 refine Qa4<|qs 2 rfl<|qm rfl<|qv rfl (Qc1 (a := D) (b := 0) rfl rfl)<|Qa1<|Qam rfl (fun c3 => ?_) (fun c3 => ?_)
 · replace hm := iT c3 hm
   refine qs 3 rfl<|qm rfl<|qm rfl<|qm rfl<|Qa1<|Qag ?_
   refine Qb3 ?_
   have bg := (R.kz t)
   cases hm
   refine ⟨_, _, rfl, Qbj rfl (Qab rfl) (Qab rfl), ?_⟩
   exact ⟨(.slice none 0 0), 0, 0, rfl, (Qax _ 0 5 1), ⟨.inl rfl⟩, bg⟩
 replace hm := iF c3 hm
 refine qu<|Qa4<|qs 4 rfl<|qv rfl (Qa3 Qaj rfl n rfl)<|qv rfl (Qa0 Qyj rfl) ?_
 have Y8 := Gr.trans G4 G5
 have Y := ((((((G.gr Y8).md M6).kz K7).gr Y5).md d).kz t)
 refine qv rfl (Qb6 (vs := kb p2.Mac) Qaj rfl Y rfl rfl)<|qv rfl (Qmi (cf := kb) (a := a9) (b := p2.Mac) Qpp rfl rfl rfl rfl (fun h => Qmf h))<|Qa1<|Qam rfl (fun c4 => ?_) (fun c4 => ?_)
 · replace hm := iT c4 hm
   refine qs 2 rfl<|qm rfl<|qm rfl<|Qa1<|Qag<|Qb3 ?_
   have bh := (R.kz t)
   cases hm
   refine ⟨_, _, rfl, Qbj rfl (Qab rfl) (Qab rfl), ?_⟩
   exact ⟨(.slice none 0 0), 0, 0, rfl, (Qax _ 0 5 1), ⟨.inl rfl⟩, bh⟩
 replace hm := iF c4 hm
 refine qu<|qs 10 rfl ?_
 have bi := (P.kz t)
 refine qv rfl (Qa3 Qaj rfl bi rfl)<|qv rfl (Qa0 Xce rfl)<|qv rfl (Qa2 (v := wv p2.Number) Qb5 rfl Y rfl)<|qv rfl (Qa0 Qrm rfl)<|qv rfl (Qa2 (v := vp2_39) Qms rfl Y rfl) ?_
 have bj := ((((((c.gr Y4).md M6 (Qar p)).kz K7).gr Y5).md d (Qar p)).kz t)
 obtain ⟨bX, aJ, hm⟩ := bnd hm
 refine qe rfl (eC Xrx rfl (Qpu aJ bj)) ?_
 rintro _ bY ⟨u, y, z, rfl, B, C, bk⟩
 refine qm rfl<|qm rfl<|qm rfl<|qm rfl<|Qa1<|Qag ?_
 have bl := ((R.kz t).trans bk)
 cases hm
 refine ⟨_, _, rfl, Qbj rfl (Qab rfl) (Qab rfl), ?_⟩
 exact ⟨u, y, z, rfl, B, ⟨(Qbp (A := (fun x => w.heap.size ≤ x)) C)⟩, bl⟩
theorem Qf6 {p0 p1 p2 p3 p4 vp2_1 zp2_1 gp2_1 op2_1 vp3_2 zp3_2 gp3_2 op3_2 vp3_4 zp3_4 gp3_4 op3_4 vp3_39 zp3_39 gp3_39 op3_39 r} (hm : Qm9 p0 p1 p2 p3 p4 = some r) {w : World} (N : Rd w zp2_1 gp2_1 op2_1 18 vp2_1 (p2.Secret.Labels.map Qb7.cs)) (m : Rd w zp3_2 gp3_2 op3_2 18 vp3_2 (p3.Head.Items.map Qce.cs)) (n : Rd w zp3_4 gp3_4 op3_4 2 vp3_4 (p3.Head.Points.map Qah.cs)) (i : Rd w zp3_39 gp3_39 op3_39 1 vp3_39 (p3.Data.map bvc)) :
    Calls Tryz.prog 37 [.agg (Qa8.cs p0).toArray, .agg (Qfs.cs p1).toArray, .agg (Qad.cs p2 vp2_1).toArray, .agg (Qak.cs p3 vp3_2 vp3_4 vp3_39).toArray, .int .i64 p4].toArray w fun e w' => ∃ v, e = .returned v ∧ (∃ ur0_1 zr0_1 gr0_1 ur1_s zr1_s gr1_s, v = .tuple [.agg (Qad.cs r.1 ur0_1).toArray, ur1_s, .int .i64 r.2.2].toArray ∧ Own w' zr0_1 gr0_1 92 18 ur0_1 (r.1.Secret.Labels.map Qb7.cs) ∧ Hdn (zr0_1 = 0 ∨ w.heap.size ≤ gr0_1) ∧ Own w' zr1_s gr1_s 5 1 ur1_s (r.2.1.map bvc) ∧ Hdn (zr1_s = 0 ∨ w.heap.size ≤ gr1_s) ∧ Hdn (zr1_s = 0 ∨ zr0_1 = 0 ∨ gr1_s ≠ gr0_1) ∧ Gr w w') := by
 have O := m.lth
 have P := n.lth
 have Q := i.lth
 unfold Qm9 at hm
 refine Qa5 68 Tryz.func37 rfl rfl rfl<|qs 7 rfl<|qe rfl (Qaq (cs := Qa8.cs p0) rfl rfl) ?_
 rintro _ w1 ⟨b1, rfl, a4, V, G1⟩
 have bg := V.lt
 refine qe rfl (Qaq (cs := Qfs.cs p1) rfl rfl) ?_
 rintro _ w2 ⟨b2, rfl, a7, W, G2⟩
 have bh := W.lt
 refine qe rfl (Qaq (cs := Qad.cs p2 vp2_1) rfl rfl) ?_
 rintro _ w3 ⟨b3, rfl, ba, X, G3⟩
 have bb := X.lt
 refine qe rfl (Qaq (cs := Qak.cs p3 vp3_2 vp3_4 vp3_39) rfl rfl) ?_
 rintro _ w4 ⟨b4, rfl, bc, R, G4⟩
 have bd := R.lt
 refine qe rfl (Qa7 (cs := Qad.cs (Qad.mk (Qaf.mk 0 [] (Qah.mk 0#64 0#64)) 0 (Qbg.mk (Qbl.mk false 0 k0) (Qbl.mk false 0 k0))) (.slice none 0 0)) Qpc rfl) ?_
 rintro _ w5 ⟨b5, rfl, be, F, G5⟩
 have bf := F.lt
 refine qm rfl<|qm rfl<|qd 5 rfl ?_
 have Y1 := Gr.trans (Gr.trans (Gr.trans G2 G3) G4) G5
 have Y := (V.gr Y1)
 refine qv rfl (Qa3 Qc3 rfl Y rfl) ?_
 have Y2 := Gr.trans (Gr.trans G3 G4) G5
 have S := (W.gr Y2)
 refine qv rfl (Qa3 Qht rfl S rfl) ?_
 have Y3 := Gr.trans G4 G5
 have Z := (X.gr Y3)
 refine qv rfl (Qa3 Qds rfl Z rfl) ?_
 have Y4 := Gr.trans G1 Y1
 have aa := (N.gr Y4)
 obtain ⟨x1, ap, hm⟩ := bnd hm
 refine qe rfl (eC Xua rfl (Qy3 ap aa)) ?_
 rintro _ w6 ⟨rfl, G6⟩
 have bi := G6.size
 refine qm rfl<|Qa1 ?_
 have Y5 := Gr.trans Y4 G6
 have aq := ((Gr.refl w).trans Y5)
 refine qj (β := Int) [13, 19, 20, 21, 22] (fun a2 => [(13, .int .i64 a2)]) (fun a2 wr => (Qlz p0 p1 p2 p3 p4 a2 = some r) ∧ Kz [] w6 wr) ?_ ?_
 · refine qs 2 rfl<|qm rfl<|qv rfl (Qe4 (a := x1) (b := 0) rfl rfl)<|Qa1<|cnF rfl (fun c6 => ?_) (fun c6 => ?_)
   · replace hm := iF c6 hm
     refine Qc4 ?_
     exact ⟨rfl, x1, sbq, hm, kz0⟩
   replace hm := iT c6 hm
   refine qg 3 rfl ?_
   have Y6 := Gr.trans G5 G6
   have ar := (R.gr Y6)
   refine qv rfl (Qa3 Qcs rfl ar rfl) ?_
   have au := (m.gr Y5)
   have av := (n.gr Y5)
   have aw := (i.gr Y5)
   obtain ⟨ax, ab, hm⟩ := bnd hm
   refine qe rfl (eC Xtl rfl (Qry ab au av aw)) ?_
   rintro _ bj ⟨rfl, ay⟩
   refine qm rfl<|Qaa ?_
   exact ⟨rfl, ax, sbq, hm, (kz0.gr ay)⟩
 clear hm; rintro a2 w7 ⟨hm, K7⟩
 have bk := K7.size
 unfold Qlz at hm
 have ac := (aq.kz K7)
 refine qj (β := Int) ([13] ++ rg 23 7) (fun a3 => [(13, .int .i64 a3)]) (fun a3 wr => (Qlx p0 p1 p2 p3 p4 a3 = some r) ∧ Kz [] w7 wr) ?_ ?_
 · refine qj (β := Bool) (rg 23 7) (fun G => [(29, .bool G)]) (fun G wr => (Qlv p0 p1 p2 p3 p4 a2 G = some r) ∧ Kz [] w7 wr) ?_ ?_
   · refine qg 7 rfl<|qm rfl<|qv rfl (Qe4 (a := a2) (b := 0) rfl rfl)<|qpF rfl (Qac rfl) (fun c5 => ?_) (fun c5 => ?_)
     · replace hm := iF c5 hm
       refine qk rfl<|qk rfl<|qk rfl<|qm rfl<|Qaa ?_
       exact ⟨rfl, false, sbq, hm, kz0⟩
     replace hm := iT c5 hm
     refine qm rfl ?_
     obtain ⟨az, ad, hm⟩ := bnd hm
     refine qe rfl (eC Qzy rfl (Qf8 ad)) ?_
     rintro _ bl ⟨rfl, aA⟩
     refine qv rfl (Qcl rfl)<|qm rfl<|Qaa ?_
     exact ⟨rfl, (!az), sbq, hm, (kz0.gr aA)⟩
   clear hm; rintro G bm ⟨hm, ae⟩
   unfold Qlv at hm
   refine cnF rfl (fun c4 => ?_) (fun c4 => ?_)
   · replace hm := Qc7 c4 hm
     refine Qc4 ?_
     exact ⟨rfl, a2, sbq, hm, (kz0.kz ae)⟩
   replace hm := Qc5 c4 hm
   refine qg 1 rfl<|qm rfl<|Qaa ?_
   exact ⟨rfl, 2, sbq, hm, (kz0.kz ae)⟩
 clear hm; rintro a3 w8 ⟨hm, K8⟩
 have bo := K8.size
 unfold Qlx at hm
 refine Qa4<|qs 2 rfl<|qm rfl<|qv rfl (Qc1 (a := a3) (b := 0) rfl rfl)<|Qa1<|Qam rfl (fun c1 => ?_) (fun c1 => ?_)
 · replace hm := iT c1 hm
   refine qs 5 rfl<|qv rfl (Qat (cs := Qad.cs (Qad.mk (Qaf.mk 0 [] (Qah.mk 0#64 0#64)) 0 (Qbg.mk (Qbl.mk false 0 k0) (Qbl.mk false 0 k0))) (.slice none 0 0)) Xek rfl (by kernel_rfl))<|qm rfl ?_
   have aB := (((F.gr G6).kz K7).kz K8)
   refine qe rfl (Qai Qds rfl rfl (Qad.cs_ones _ _ rfl) aB rfl rfl) ?_
   rintro _ w9 ⟨aC, M9⟩
   refine qm rfl<|qm rfl<|qb ?_
   have aD := ((ac.kz K8).md M9)
   cases hm
   refine ⟨_, _, rfl, Xnv rfl (Qap Qds rfl aC rfl) (Qab rfl) (Qab rfl), ?_⟩
   exact ⟨(.slice none 0 0), 0, 0, (.slice none 0 0), 0, 0, rfl, (Qax _ 0 92 18), ⟨.inl rfl⟩, (Qax _ 0 5 1), ⟨.inl rfl⟩, ⟨(.inl rfl)⟩, aD⟩
 replace hm := iF c1 hm
 refine qu<|qs 7 rfl<|qv rfl (Qa0 Qwg rfl)<|qv rfl (Qa0 Qtp rfl) ?_
 have af := (((Z.gr G6).kz K7).kz K8)
 refine qv rfl (Qa2 (v := vp2_1) Qws rfl af rfl) ?_
 have aE := (((aa.gr G6).kz K7).kz K8)
 obtain ⟨x4, aF, hm⟩ := bnd hm
 refine qe rfl (eC Xtp rfl (Qrt aF aE)) ?_
 rintro h bp ⟨_, j, l, rfl, d, c, g⟩
 have bq := g.size
 have ag := d.lth
 refine qv rfl (Qa0 Qwg rfl)<|qv rfl (Qa0 Qtp rfl) ?_
 have aG := (af.gr g)
 refine qe rfl (Qed (cs' := Qad.cs (Qad.mk (Qaf.mk p2.Secret.Receiver x4 p2.Secret.Share) p2.Ahead p2.Slots) h) (Qws).siz rfl rfl (Own.oneB d) aG rfl rfl) ?_
 rintro _ H ⟨t, f⟩
 have br := f.size
 refine qd 1 rfl<|qm rfl<|Qa1 ?_
 have ah := (((ac.kz K8).trans g).md f)
 refine qj (β := Int × List (BitVec 8) × Int × Qah × Int × Qbg × Value × Nat × Nat) ([13, 14] ++ rg 40 22) (fun ⟨a5, a6, a8, a9, I, J, vy7, zy7, gy7⟩ => [(13, .int .i64 a5), (14, vy7)]) (fun ⟨a5, a6, a8, a9, I, J, vy7, zy7, gy7⟩ wr => (Qlq x4 a5 a6 a8 a9 I J = some r) ∧ Own wr zy7 gy7 5 1 vy7 (a6.map bvc) ∧ Hdn (zy7 = 0 ∨ H.heap.size ≤ gy7) ∧ Bx wr b3 78 (Qad.cs (Qad.mk (Qaf.mk a8 x4 a9) I J) h) ∧ Kz [(1, b3)] H wr) ?_ ?_
 · refine qs 3 rfl<|qv rfl (Qa0 Qyu rfl) ?_
   have Y7 := Gr.trans G5 G6
   have T := (((((R.gr Y7).kz K7).kz K8).gr g).md f)
   refine qv rfl (Qa2 (v := bv p3.Kind) Qcu rfl T rfl)<|qv rfl (Qit (p := p3.Kind) (q := 1#8) rfl rfl)<|Qa1<|Qam rfl (fun c3 => ?_) (fun c3 => ?_)
   · replace hm := iT c3 hm
     refine qg 9 rfl ?_
     have aH := (((((Y.gr G6).kz K7).kz K8).gr g).md f)
     refine qv rfl (Qa3 Qc3 rfl aH rfl) ?_
     have aI := (((((S.gr G6).kz K7).kz K8).gr g).md f)
     refine qv rfl (Qa3 Qht rfl aI rfl)<|qv rfl (Qa3 Qcs rfl T rfl)<|qm rfl<|qv rfl (Qa0 Qz9 rfl)<|qv rfl (Qa2 (v := .int .i64 p2.Ahead) Qay rfl t rfl)<|qv rfl (Qcg (k := .i64) (a := p4) (b := p2.Ahead) rfl rfl) ?_
     have aJ := (d.md f (Qd8 c))
     have aK := (((((m.gr Y5).kz K7).kz K8).gr g).md f (Qar O))
     have aL := (((((n.gr Y5).kz K7).kz K8).gr g).md f (Qar P))
     have aM := (((((i.gr Y5).kz K7).kz K8).gr g).md f (Qar Q))
     obtain ⟨D, ai, hm⟩ := bnd hm
     refine qe rfl (eC Xuf rfl (Qza ai t (Own.rd aJ) aK aL aM ⟨(tk1 (Qd8 (b := b3) c))⟩ ⟨(tk1 (Qar (b := b3) O))⟩ ⟨(tk1 (Qar (b := b3) P))⟩ ⟨(tk1 (Qar (b := b3) Q))⟩)) ?_
     rintro _ bs ⟨rfl, K, aN⟩
     refine qm rfl<|Qaa ?_
     exact ⟨rfl, ⟨D.1, [], D.2.Secret.Receiver, D.2.Secret.Share, D.2.Ahead, D.2.Slots, (.slice none 0 0), 0, 0⟩, sbq, hm, (Qax _ 0 5 1), ⟨(.inl rfl)⟩, K, (Kz.kz (Kz.refl _ _) aN)⟩
   replace hm := iF c3 hm
   refine qg 13 rfl ?_
   have aO := (((((S.gr G6).kz K7).kz K8).gr g).md f)
   refine qv rfl (Qa3 Qht rfl aO rfl)<|qv rfl (Qa3 Qds rfl t rfl)<|qv rfl (Qa3 Qcs rfl T rfl)<|qm rfl<|qv rfl (Qa0 Qz9 rfl)<|qv rfl (Qa2 (v := .int .i64 p2.Ahead) Qay rfl t rfl)<|qv rfl (Qcg (k := .i64) (a := p4) (b := p2.Ahead) rfl rfl) ?_
   have aP := (d.md f (Qd8 c))
   have aQ := (((((m.gr Y5).kz K7).kz K8).gr g).md f (Qar O))
   have aR := (((((n.gr Y5).kz K7).kz K8).gr g).md f (Qar P))
   have aS := (((((i.gr Y5).kz K7).kz K8).gr g).md f (Qar Q))
   obtain ⟨aj, ak, hm⟩ := bnd hm
   refine qe rfl (eC Xu7 rfl (Xas ak (Own.rd aP) aQ aR aS)) ?_
   rintro _ aT ⟨u, y, z, rfl, B, C, al⟩
   refine qm rfl<|qm rfl<|qm rfl<|qm rfl<|qm rfl<|Qaa ?_
   have K_62 : Kz [(1, b3)] H aT := (Kz.gr (Kz.refl _ _) al)
   have aU := (t.gr al)
   exact ⟨rfl, ⟨aj.2, aj.1, p2.Secret.Receiver, p2.Secret.Share, p2.Ahead, p2.Slots, u, y, z⟩, sbq, hm, B, ⟨(Qbp (A := (fun x => H.heap.size ≤ x)) C)⟩, aU, K_62⟩
 clear hm; rintro ⟨a5, a6, a8, a9, I, J, vy7, zy7, gy7⟩ bu ⟨hm, L, s, M, E⟩
 unfold Qlq at hm
 refine Qa4<|qs 2 rfl<|qm rfl<|qv rfl (Qc1 (a := a5) (b := 0) rfl rfl)<|Qa1<|Qam rfl (fun c2 => ?_) (fun c2 => ?_)
 · replace hm := iT c2 hm
   refine qs 5 rfl<|qv rfl (Qat (cs := Qad.cs (Qad.mk (Qaf.mk 0 [] (Qah.mk 0#64 0#64)) 0 (Qbg.mk (Qbl.mk false 0 k0) (Qbl.mk false 0 k0))) (.slice none 0 0)) Xek rfl (by kernel_rfl))<|qm rfl ?_
   have aV := ((((((F.gr G6).kz K7).kz K8).gr g).md f).kz E)
   refine qe rfl (Qai Qds rfl rfl (Qad.cs_ones _ _ rfl) aV rfl rfl) ?_
   rintro _ bw ⟨am, aW⟩
   refine qm rfl<|qm rfl<|qb ?_
   have aX := ((ah.kz E).md aW)
   cases hm
   refine ⟨_, _, rfl, Xnv rfl (Qap Qds rfl am rfl) (Qab rfl) (Qab rfl), ?_⟩
   exact ⟨(.slice none 0 0), 0, 0, (.slice none 0 0), 0, 0, rfl, (Qax _ 0 92 18), ⟨.inl rfl⟩, (Qax _ 0 5 1), ⟨.inl rfl⟩, ⟨(.inl rfl)⟩, aX⟩
 replace hm := iF c2 hm
 refine qu<|qs 5 rfl<|qv rfl (Qa3 Qds rfl M rfl)<|qm rfl ?_
 have aY := ((((((F.gr G6).kz K7).kz K8).gr g).md f).kz E)
 have an := ((d.md f (Qd8 c)).kz E (tk1 (Qd8 (b := b3) c)))
 refine qe rfl (Qai Qds rfl rfl (Qad.cs_ones _ _ (Own.oneB an)) aY rfl rfl) ?_
 rintro _ bx ⟨ao, U⟩
 refine qm rfl<|qm rfl<|Qa1<|Qag ?_
 have aZ := (an.md U (Qd8 c))
 have a0 := (L.md U (Qd8 s))
 have a1 := ((ah.kz E).md U)
 cases hm
 refine ⟨_, _, rfl, Xnv rfl (Qap Qds rfl ao rfl) (Qab rfl) (Qab rfl), ?_⟩
 exact ⟨h, j, l, vy7, zy7, gy7, rfl, aZ, ⟨(Qbp (A := (fun x => w.heap.size ≤ x)) c)⟩, a0, ⟨(Qbp (A := (fun x => w.heap.size ≤ x)) s)⟩, ⟨(Qbp (A := (fun x => j = 0 ∨ x ≠ l)) s (fun x hx => (tk1 ag.o)))⟩, a1⟩
end Go.Proofs.YtjdffpglgkefmaaGreat.Mx
