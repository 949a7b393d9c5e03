/- Walks that follow mirrors: Xe. Printed by mx.py. -/
import Derived.Test.YtjdffpglgkefmaaGreatXd
import Derived.Test.YtjdffpglgkefmaaGreatZd
set_option linter.unusedVariables false
set_option linter.unusedSimpArgs false
set_option maxRecDepth 100000
set_option maxHeartbeats 2000000
namespace Go.Proofs.YtjdffpglgkefmaaGreat.Mx
open Go Go.RowKit Go.Sx
theorem Qv8 : FA Tryz.prog 78 1 4 := fun _ _ _ => by kernel_rfl
theorem Qtk : FA Tryz.prog 78 0 0 := fun _ _ _ => by kernel_rfl
theorem Xc0 : FA Tryz.prog 33 0 0 := fun _ _ _ => by kernel_rfl
theorem Qxx : FA Tryz.prog 78 2 5 := fun _ _ _ => by kernel_rfl
theorem Qo5 : Agg Tryz.prog 75 18 := fun _ => ⟨by kernel_rfl, by kernel_rfl⟩
theorem Xin : ZV Tryz.prog 75 (.agg [.bool false, .int .i64 0, .int .u8 0, .int .u8 0, .int .u8 0, .int .u8 0, .int .u8 0, .int .u8 0, .int .u8 0, .int .u8 0, .int .u8 0, .int .u8 0, .int .u8 0, .int .u8 0, .int .u8 0, .int .u8 0, .int .u8 0, .int .u8 0].toArray) := fun _ => by kernel_rfl
theorem Qtc : FA Tryz.prog 75 0 0 := fun _ _ _ => by kernel_rfl
theorem Qrn : One Tryz.prog 4 := fun _ => ⟨by kernel_rfl, by kernel_rfl⟩
theorem Qv9 : FA Tryz.prog 75 1 1 := fun _ _ _ => by kernel_rfl
theorem Xij : BS Tryz.prog 75 (fun i => [(0, 1), (1, 1), (2, 16)][i]?) [.bool false, .int .i64 0, .int .u8 0, .int .u8 0, .int .u8 0, .int .u8 0, .int .u8 0, .int .u8 0, .int .u8 0, .int .u8 0, .int .u8 0, .int .u8 0, .int .u8 0, .int .u8 0, .int .u8 0, .int .u8 0, .int .u8 0, .int .u8 0] := Qpb Tryz.underlying75 Xin ⟨rfl, (Qrn).siz, rfl, (Qb3).siz, rfl, (Qai).siz, trivial⟩
theorem Xnz : EqC Tryz.prog 1 4 [.b] := Xfk Tryz.underlying4 Qrn
theorem Xl1 : EqC Tryz.prog 3 75 [.b, .i .i64, .i .u8, .i .u8, .i .u8, .i .u8, .i .u8, .i .u8, .i .u8, .i .u8, .i .u8, .i .u8, .i .u8, .i .u8, .i .u8, .i .u8, .i .u8, .i .u8] := Qlb Tryz.underlying75 (by kernel_rfl) Qo5 (show EqF _ 2 _ _ _ from (Qfr (ks1 := [.b]) (ks2 := [.i .i64, .i .u8, .i .u8, .i .u8, .i .u8, .i .u8, .i .u8, .i .u8, .i .u8, .i .u8, .i .u8, .i .u8, .i .u8, .i .u8, .i .u8, .i .u8, .i .u8]) rfl (by simp) (Xnz.up (by decide)) (Qfr (ks1 := [.i .i64]) (ks2 := [.i .u8, .i .u8, .i .u8, .i .u8, .i .u8, .i .u8, .i .u8, .i .u8, .i .u8, .i .u8, .i .u8, .i .u8, .i .u8, .i .u8, .i .u8, .i .u8]) rfl (by simp) (Xd8.up (by decide)) (Qfr (ks1 := [.i .u8, .i .u8, .i .u8, .i .u8, .i .u8, .i .u8, .i .u8, .i .u8, .i .u8, .i .u8, .i .u8, .i .u8, .i .u8, .i .u8, .i .u8, .i .u8]) (ks2 := []) rfl (by simp) (Xbv.up (by decide)) (Qrx _)))))
theorem Xgb : EqT Tryz.prog 75 [.b, .i .i64, .i .u8, .i .u8, .i .u8, .i .u8, .i .u8, .i .u8, .i .u8, .i .u8, .i .u8, .i .u8, .i .u8, .i .u8, .i .u8, .i .u8, .i .u8, .i .u8] := ⟨by kernel_rfl, Qo5, 3, by decide, Xl1⟩
theorem Xn1 : En Tryz.prog 40 := fun _ _ => by kernel_rfl
theorem Xm7 : En Tryz.prog 136 := fun _ _ => by kernel_rfl
theorem Xf8 : En Tryz.prog 60 := fun _ _ => by kernel_rfl
theorem Xeg : BSl Tryz.prog 29 0 92 18 [] := Qxp Tryz.underlying29 (Qsk).siz
theorem Xmv : En Tryz.prog 83 := fun _ _ => by kernel_rfl
theorem Qza : FA Tryz.prog 122 2 2 := fun _ _ _ => by kernel_rfl
theorem Xmy : En Tryz.prog 53 := fun _ _ => by kernel_rfl
theorem Xn2 : En Tryz.prog 50 := fun _ _ => by kernel_rfl
theorem Xlr : En Tryz.prog 25 := fun _ _ => by kernel_rfl
theorem Xmw : En Tryz.prog 84 := fun _ _ => by kernel_rfl
theorem Xhk : FA Tryz.prog 75 2 2 := fun _ _ _ => by kernel_rfl
theorem Xnw : En Tryz.prog 85 := fun _ _ => by kernel_rfl
theorem Qvb {p0 p1 p2 vp2_1 zp2_1 gp2_1 op2_1 r} (hm : Qqb p0 p1 p2 = some r) {w : World} (C : Rd w zp2_1 gp2_1 op2_1 18 vp2_1 (p2.Secret.Labels.map Qbv.cs)) :
    Calls Tryz.prog 40 [.agg (Qaj.cs p0).toArray, .agg (Qf7.cs p1).toArray, .agg (Qae.cs p2 vp2_1).toArray].toArray w fun e w' => ∃ v, e = .returned v ∧ (v = .int .i64 r ∧ Gr w w') := by
 unfold Qqb at hm
 refine Qa5 76 Tryz.func40 rfl rfl rfl<|qs 4 rfl<|qe rfl (Qat (cs := Qaj.cs p0) rfl rfl) ?_
 rintro _ w1 ⟨b1, rfl, P, u, G1⟩
 have U := u.lt
 refine qe rfl (Qat (cs := Qf7.cs p1) rfl rfl) ?_
 rintro _ w2 ⟨b2, rfl, Q, x, G2⟩
 have V := x.lt
 refine qe rfl (Qat (cs := Qae.cs p2 vp2_1) rfl rfl) ?_
 rintro _ w3 ⟨b3, rfl, R, m, G3⟩
 have W := m.lt
 refine qm rfl<|Qa1<|Qa3<|qs 4 rfl ?_
 have Y1 := Gr.trans G2 G3
 have B8 := (u.gr Y1)
 refine qv rfl (Qa6 Qcq rfl B8 rfl) ?_
 have B9 := (x.gr G3)
 refine qv rfl (Qa6 Qh2 rfl B9 rfl) ?_
 obtain ⟨x1, D, hm⟩ := bnd hm
 refine qe rfl (eC Xk8 rfl (Qsa D)) ?_
 rintro _ w4 ⟨rfl, G4⟩
 have X := G4.size
 refine qm rfl<|qd 2 rfl<|qm rfl<|qv rfl (Qby (a := x1) (b := 0) rfl rfl)<|Qa1 ?_
 refine Qal rfl (fun c1 => ?_) (fun c1 => ?_)
 · replace hm := iT c1 hm
   refine qs 2 rfl<|qm rfl<|qm rfl<|Qa1<|Qaf<|Qb2 ?_
   have Y2 := Gr.trans (Gr.trans G1 Y1) G4
   have E := ((Gr.refl w).trans Y2)
   cases hm
   refine ⟨_, _, rfl, Qay rfl (Qac rfl), ?_⟩
   exact ⟨rfl, E⟩
 replace hm := iF c1 hm
 refine qu<|Qa3 ?_
 have Y3 := Gr.trans (Gr.trans G1 Y1) G4
 have y := ((Gr.refl w).trans Y3)
 refine qj (β := Bool) (rg 16 28) (fun a2 => [(43, .bool a2)]) (fun a2 wr => (Qgv p2 a2 = some r) ∧ Kz [] w4 wr) ?_ ?_
 · refine dw [([])] [] (.leaf [(0,10),(1,10),(2,10),(3,10),(4,10),(5,10),(6,10),(7,10),(8,10),(9,10),(10,10),(11,10),(12,10),(13,10),(14,10),(15,10),(16,10),(17,10),(18,10),(19,10),(20,10),(21,10),(22,10),(23,10),(24,10),(25,10),(26,10),(27,10)]) ?_
   intro n d S
   refine Qam<|dh 0 rfl rfl (fun w hS => Qa0 Qv8 rfl) ?_
   have j := ((m.gr G4).gr d)
   refine dh 0 rfl rfl (fun w hS => Qa2 (v := .int .i64 p2.Ahead) Qb3 rfl (Bx.kp j hS) rfl)<|dh 0 rfl rfl (fun w hS => Qa0 Qkl rfl) ?_
   have z := ((B9.gr G4).gr d)
   refine dh 0 rfl rfl (fun w hS => Qa2 (v := .int .i64 p1.Drift) Qb3 rfl (Bx.kp z hS) rfl)<|dh 0 rfl rfl (fun w hS => Xcx (a := p1.Drift) rfl)<|dh 0 rfl rfl (fun w hS => Qc9 (a := p2.Ahead) (b := w64 (-p1.Drift)) rfl rfl)<|qq 0 rfl rfl (Kp.refl ([]) n) (fun w hS => Qad rfl) (fun o => ?_) (fun o => ?_)
   · replace hm := iT o hm
     refine dx 0 rfl rfl<|dx 0 rfl rfl<|dx 0 rfl rfl<|dx 0 rfl rfl<|dx 0 rfl rfl<|dm 0 rfl rfl<|dm 0 rfl rfl ?_
     refine dx 0 rfl rfl<|dx 0 rfl rfl<|dx 0 rfl rfl<|dx 0 rfl rfl<|dm 0 rfl rfl<|dm 0 rfl rfl<|dx 0 rfl rfl ?_
     refine dx 0 rfl rfl<|dx 0 rfl rfl<|dx 0 rfl rfl<|dx 0 rfl rfl<|dx 0 rfl rfl<|dx 0 rfl rfl<|dm 0 rfl rfl ?_
     refine Qa9 ?_
     exact ⟨rfl, true, sbq, hm, (kz0.gr d)⟩
   replace hm := iF o hm
   refine dh 0 rfl rfl (fun w hS => Qa0 Qv8 rfl)<|dh 0 rfl rfl (fun w hS => Qa2 (v := .int .i64 p2.Ahead) Qb3 rfl (Bx.kp j hS) rfl)<|dh 0 rfl rfl (fun w hS => Qa0 Qkl rfl)<|dh 0 rfl rfl (fun w hS => Qa2 (v := .int .i64 p1.Drift) Qb3 rfl (Bx.kp z hS) rfl)<|dh 0 rfl rfl (fun w hS => Qe8 (a := p2.Ahead) (b := p1.Drift) rfl rfl)<|dm 0 rfl rfl<|qq 0 rfl rfl (Kp.refl ([]) n) (fun w hS => Qad rfl) (fun p => ?_) (fun p => ?_)
   · replace hm := iT p hm
     refine dx 0 rfl rfl<|dx 0 rfl rfl<|dx 0 rfl rfl<|dx 0 rfl rfl<|dm 0 rfl rfl<|dm 0 rfl rfl<|dx 0 rfl rfl ?_
     refine dx 0 rfl rfl<|dx 0 rfl rfl<|dx 0 rfl rfl<|dx 0 rfl rfl<|dx 0 rfl rfl<|dx 0 rfl rfl<|dm 0 rfl rfl ?_
     refine Qa9 ?_
     exact ⟨rfl, true, sbq, hm, (kz0.gr d)⟩
   replace hm := iF p hm
   refine dh 0 rfl rfl (fun w hS => Qa0 Qtk rfl)<|dh 0 rfl rfl (fun w hS => Qa0 Xc0 rfl)<|dh 0 rfl rfl (fun w hS => Qa2 (v := .int .i64 p2.Secret.Receiver) Qb3 rfl (Bx.kp j hS) rfl)<|dh 0 rfl rfl (fun w hS => Qc9 (a := p2.Secret.Receiver) (b := 0) rfl rfl)<|dm 0 rfl rfl<|qq 0 rfl rfl (Kp.refl ([]) n) (fun w hS => Qad rfl) (fun q => ?_) (fun q => ?_)
   · replace hm := iT q hm
     refine dx 0 rfl rfl<|dx 0 rfl rfl<|dx 0 rfl rfl<|dx 0 rfl rfl<|dx 0 rfl rfl<|dx 0 rfl rfl<|dx 0 rfl rfl ?_
     refine dm 0 rfl rfl<|Qa9 ?_
     exact ⟨rfl, true, sbq, hm, (kz0.gr d)⟩
   replace hm := iF q hm
   refine dh 0 rfl rfl (fun w hS => Qa0 Qtk rfl)<|dh 0 rfl rfl (fun w hS => Qa0 Xc0 rfl)<|dh 0 rfl rfl (fun w hS => Qa2 (v := .int .i64 p2.Secret.Receiver) Qb3 rfl (Bx.kp j hS) rfl)<|dh 0 rfl rfl (fun w hS => Qa0 Qlq rfl) ?_
   have F := ((B8.gr G4).gr d)
   refine dh 0 rfl rfl (fun w hS => Qa2 (v := .int .i64 p0.Depth) Qb3 rfl (Bx.kp F hS) rfl) ?_
   obtain ⟨n9, hn9, hm⟩ := bnd hm
   refine dh 0 rfl rfl (fun w hS => Qrz (a := 1) (b := p0.Depth) rfl rfl hn9)<|dh 0 rfl rfl (fun w hS => Qdy (a := p2.Secret.Receiver) (b := Qvz 1 n9) rfl rfl)<|dm 0 rfl rfl<|Qa9 ?_
   exact ⟨rfl, (decide (Qvz 1 n9 ≤ p2.Secret.Receiver)), sbq, hm, (kz0.gr d)⟩
 clear hm; rintro a2 w5 ⟨hm, K5⟩
 have Y := K5.size
 unfold Qgv at hm
 refine Qal rfl (fun c2 => ?_) (fun c2 => ?_)
 · replace hm := Qc0 c2 hm
   refine qs 1 rfl<|qm rfl<|qb ?_
   have G := (y.kz K5)
   cases hm
   refine ⟨_, _, rfl, Qay rfl (Qac rfl), ?_⟩
   exact ⟨rfl, G⟩
 replace hm := Qc1 c2 hm
 refine qu<|Qa3<|qs 3 rfl<|qv rfl (Qa0 Qxx rfl) ?_
 have H := ((m.gr G4).kz K5)
 refine qv rfl (Qb9 (vs := Qbi.cs p2.Slots) Xfv rfl H rfl rfl)<|qm rfl<|Qa1<|Qao ?_
 have A := (y.kz K5)
 refine Qbk (α := Nat × Int) ([6, 8, 9] ++ rg 46 30) (fun ⟨n2, a4⟩ => [(6, .int .i64 0), (46, .int .i64 a4)]) (fun ⟨n2, a4⟩ wr => (Qcr (Qk4 p2) n2 a4 = some r) ∧ Kz [] w5 wr) (fun ⟨n2, a4⟩ => n2) ⟨Qdn, 0⟩ ?_ ?_ ?_
 · exact sbq
 · exact ⟨hm, Kz.refl _ _⟩
 clear hm; rintro ⟨n2, a4⟩ w6 ⟨hm, K6⟩
 have Z := K6.size
 have hb := Qbt hm; clear hm; obtain ⟨n2, rfl, hm⟩ := hb
 generalize s : Qcr (Qk4 p2) n2 = B at hm
 unfold Qk4 at hm
 try dsimp only at hm
 refine qs 1 rfl<|qv rfl (Qc9 (a := a4) (b := 2) rfl rfl)<|Qa1<|Qa3<|cnF rfl (fun c3 => ?_) (fun c3 => ?_)
 · replace hm := iF c3 hm
   refine Qbq<|Qb6<|Qb6<|Qbo<|Qaz<|qs 1 rfl ?_
   refine qm rfl<|Qa1<|Qaf ?_
   have I := (A.kz K6)
   cases hm
   refine ⟨_, _, rfl, Qay rfl (Qac rfl), ?_⟩
   exact ⟨rfl, I⟩
 replace hm := iT c3 hm
 refine qu<|Qa3<|Qao<|qs 5 rfl<|qm rfl ?_
 obtain ⟨y5, J, hm⟩ := bnd hm
 refine qv rfl (Xmg (l := [p2.Slots.a0, p2.Slots.a1]) (c := Qbr.cs) (i := a4) Tryz.underlying76 (Qo5).siz Qo5 rfl rfl rfl (Qil _ (fun _ => rfl) (fun _ => rfl)) rfl J)<|qe rfl (Qaa (cs := Qbr.cs (Qbr.mk false 0 k0)) Xin rfl) ?_
 rintro _ w7 ⟨b7, rfl, T, K, G7⟩
 refine qm rfl<|qe rfl (Qah Qo5 rfl rfl rfl K rfl rfl) ?_
 rintro _ w8 ⟨f, M8⟩
 refine Qa1 ?_
 have L := (((A.kz K6).trans G7).md M8)
 refine qj (β := Bool) (rg 50 25) (fun a6 => [(74, .bool a6)]) (fun a6 wr => (Qeo a4 B a6 = some r) ∧ Kz [] w8 wr) ?_ ?_
 · refine qg 25 rfl<|qv rfl (Qa0 Qtc rfl)<|qv rfl (Qa2 (v := .bool y5.Full) Qrn rfl f rfl)<|qpF rfl (Qad rfl) (fun c5 => ?_) (fun c5 => ?_)
   · replace hm := Qc1 c5 hm
     refine qk rfl<|qk rfl<|qk rfl<|qk rfl<|qk rfl<|qk rfl<|qk rfl ?_
     refine qk rfl<|qk rfl<|qk rfl<|qk rfl<|qm rfl<|qm rfl<|qv rfl (Qa0 Qtc rfl) ?_
     refine qv rfl (Qa2 (v := .bool y5.Full) Qrn rfl f rfl)<|qv rfl (Qci rfl)<|qpF rfl (Qad rfl) (fun c9 => ?_) (fun c9 => ?_)
     · replace hm := Qc1 c9 hm
       refine qk rfl<|qk rfl<|qk rfl<|qm rfl<|qm rfl<|Qa9 ?_
       exact ⟨rfl, false, sbq, hm, kz0⟩
     replace hm := Qc0 c9 hm
     refine qv rfl (Qa6 Qo5 rfl f rfl)<|qv rfl (Qau (cs := Qbr.cs (Qbr.mk false 0 k0)) Xij rfl (by kernel_rfl))<|qv rfl (Qlu (cf := Qbr.cs) (a := y5) (b := (Qbr.mk false 0 k0)) Xgb rfl rfl rfl rfl (fun h => Qbr.cs_inj h))<|qm rfl<|qm rfl<|Qa9 ?_
     exact ⟨rfl, (decide (y5 ≠ (Qbr.mk false 0 k0))), sbq, hm, kz0⟩
   replace hm := Qc0 c5 hm
   refine qv rfl (Qa0 Qv9 rfl)<|qv rfl (Qa2 (v := .int .i64 y5.Epoch) Qb3 rfl f rfl) ?_
   obtain ⟨x7, M, hm⟩ := bnd hm
   refine qe rfl (eC Qxb rfl (Qen M)) ?_
   rintro _ aa ⟨rfl, g⟩
   refine qv rfl (Qci rfl)<|qp rfl (Qad rfl) (fun c6 => ?_) (fun c6 => ?_)
   · replace hm := Qc0 c6 hm
     refine qk rfl<|qk rfl<|qk rfl<|qk rfl<|qk rfl<|qm rfl<|qm rfl ?_
     refine qm rfl<|qk rfl<|qk rfl<|qk rfl<|qk rfl<|qk rfl<|qk rfl ?_
     refine qk rfl<|qk rfl<|qm rfl<|Qa9 ?_
     exact ⟨rfl, true, sbq, hm, (kz0.gr g)⟩
   replace hm := Qc1 c6 hm
   refine qv rfl (Qa0 Qv9 rfl) ?_
   have t := (f.gr g)
   refine qv rfl (Qa2 (v := .int .i64 y5.Epoch) Qb3 rfl t rfl) ?_
   obtain ⟨x8, N, hm⟩ := bnd hm
   refine qv rfl (Qj5 (a := y5.Epoch) (b := 2) rfl rfl N)<|qm rfl<|qv rfl (Qby (a := x8) (b := a4) rfl rfl)<|qm rfl<|qm rfl<|qp rfl (Qad rfl) (fun c7 => ?_) (fun c7 => ?_)
   · replace hm := iT c7 hm
     refine qk rfl<|qk rfl<|qk rfl<|qk rfl<|qk rfl<|qk rfl<|qk rfl ?_
     refine qk rfl<|qm rfl<|Qa9 ?_
     exact ⟨rfl, true, sbq, hm, (kz0.gr g)⟩
   replace hm := iF c7 hm
   refine qv rfl (Qa0 Qtc rfl)<|qv rfl (Qa2 (v := .bool y5.Full) Qrn rfl t rfl)<|qv rfl (Qci rfl)<|qpF rfl (Qad rfl) (fun c8 => ?_) (fun c8 => ?_)
   · replace hm := Qc1 c8 hm
     refine qk rfl<|qk rfl<|qk rfl<|qm rfl<|qm rfl<|Qa9 ?_
     exact ⟨rfl, false, sbq, hm, (kz0.gr g)⟩
   replace hm := Qc0 c8 hm
   refine qv rfl (Qa6 Qo5 rfl t rfl)<|qv rfl (Qau (cs := Qbr.cs (Qbr.mk false 0 k0)) Xij rfl (by kernel_rfl))<|qv rfl (Qlu (cf := Qbr.cs) (a := y5) (b := (Qbr.mk false 0 k0)) Xgb rfl rfl rfl rfl (fun h => Qbr.cs_inj h))<|qm rfl<|qm rfl<|Qa9 ?_
   exact ⟨rfl, (decide (y5 ≠ (Qbr.mk false 0 k0))), sbq, hm, (kz0.gr g)⟩
 clear hm; rintro a6 w9 ⟨hm, K9⟩
 unfold Qeo at hm
 refine Qal rfl (fun c4 => ?_) (fun c4 => ?_)
 · replace hm := Qc0 c4 hm
   refine qs 1 rfl<|qm rfl<|Qa1<|Qaf<|Qbl<|Qb2 ?_
   refine Qb2<|Qbl<|Qb2 ?_
   have O := (L.kz K9)
   cases hm
   refine ⟨_, _, rfl, Qay rfl (Qac rfl), ?_⟩
   exact ⟨rfl, O⟩
 replace hm := Qc1 c4 hm
 refine Qc5<|Qb1<|Qaz<|qg 2 rfl<|qv rfl (Qc6 (k := .i64) (a := a4) (b := 1) rfl rfl)<|qm rfl<|Qa9 ?_
 have K_25 : Kz [] w5 w9 := (((K6.gr G7).md M8).kz K9)
 subst s
 exact ⟨rfl, ⟨n2, w64 (a4 + 1)⟩, sbq, ⟨hm, K_25⟩, Nat.lt_succ_self _⟩
theorem Qpc {p0 r} (hm : Qey p0 = some r) {w : World} :
    Calls Tryz.prog 136 [.agg (Qbd.cs p0).toArray].toArray w fun e w' => ∃ v, e = .returned v ∧ (v = .bool r ∧ Gr w w') := by
 unfold Qey at hm
 refine Qa5 21 Tryz.func136 rfl rfl rfl<|qs 2 rfl<|qe rfl (Qat (cs := Qbd.cs p0) rfl rfl) ?_
 rintro _ w1 ⟨b1, rfl, d, c, G1⟩
 refine qm rfl<|qd 19 rfl<|qv rfl (Qa0 Qmo rfl)<|qv rfl (Qa0 Qnx rfl)<|qv rfl (Qa2 (v := .int .i64 p0.Subset.Node) Qb3 rfl c rfl) ?_
 refine qv rfl (Qa0 Qmo rfl)<|qv rfl (Qa0 Qjb rfl)<|qv rfl (Qa2 (v := .int .i64 p0.Subset.Minus) Qb3 rfl c rfl)<|qv rfl (Xhp rfl rfl)<|qv rfl (Qc9 (a := mnI p0.Subset.Node p0.Subset.Minus) (b := 0) rfl rfl)<|qp rfl (Qad rfl) (fun c1 => ?_) (fun c1 => ?_)
 · replace hm := iT c1 hm
   refine qk rfl<|qk rfl<|qk rfl<|qk rfl<|qk rfl<|qk rfl<|qk rfl ?_
   refine qk rfl<|qm rfl<|qm rfl<|Qa1<|Qaf ?_
   have X3 := ((Gr.refl w).trans G1)
   cases hm
   refine ⟨_, _, rfl, Qay rfl (Qac rfl), ?_⟩
   exact ⟨rfl, X3⟩
 replace hm := iF c1 hm
 refine qv rfl (Qa0 Qmo rfl)<|qv rfl (Qa0 Qnx rfl)<|qv rfl (Qa2 (v := .int .i64 p0.Subset.Node) Qb3 rfl c rfl)<|qv rfl (Qa0 Qmo rfl)<|qv rfl (Qa0 Qjb rfl)<|qv rfl (Qa2 (v := .int .i64 p0.Subset.Minus) Qb3 rfl c rfl)<|qv rfl (Xb4 rfl rfl) ?_
 refine qv rfl (Qe8 (a := mxI p0.Subset.Node p0.Subset.Minus) (b := 127) rfl rfl)<|qm rfl<|qm rfl<|Qa1<|Qaf ?_
 have X4 := ((Gr.refl w).trans G1)
 cases hm
 refine ⟨_, _, rfl, Qay rfl (Qac rfl), ?_⟩
 exact ⟨rfl, X4⟩
theorem Qgd {p0 vp0 zp0 gp0 op0 r} (hm : Qc8 p0 = some r) {w : World} (f : Rd w zp0 gp0 op0 18 vp0 (p0.map Qbd.cs)) :
    Calls Tryz.prog 200 [vp0, .func (.func 136) [].toArray [].toArray].toArray w fun e w' => ∃ v, e = .returned v ∧ (v = .int .i64 r ∧ Gr w w') := by
 unfold Qc8 at hm
 refine Qa5 19 Tryz.func200 rfl rfl rfl<|qs 1 rfl<|qm rfl<|Qa1<|Qa3<|Qa3 ?_
 refine qg 3 rfl<|qm rfl<|qv rfl (Qba (l := p0) (c := Qbd.cs) Tryz.underlying45 rfl f)<|qm rfl<|Qa1<|Qao<|Qbk (α := Nat × Int) ([4, 5] ++ rg 8 11) (fun ⟨n1, a2⟩ => [(4, .int .i64 0), (8, .int .i64 a2)]) (fun ⟨n1, a2⟩ wr => (Qcr (Qb4 p0) n1 a2 = some r) ∧ Kz [] w wr) (fun ⟨n1, a2⟩ => n1) ⟨Qdn, 0⟩ ?_ ?_ ?_
 · exact sbq
 · exact ⟨hm, Kz.refl _ _⟩
 clear hm; rintro ⟨n1, a2⟩ w1 ⟨hm, K1⟩
 have hb := Qbt hm; clear hm; obtain ⟨n1, rfl, hm⟩ := hb
 generalize d : Qcr (Qb4 p0) n1 = j at hm
 unfold Qb4 at hm
 try dsimp only at hm
 refine qs 1 rfl<|qv rfl (Qc9 (a := a2) (b := (p0.length : Int)) rfl rfl)<|Qa1<|Qa3<|cnF rfl (fun c1 => ?_) (fun c1 => ?_)
 · replace hm := iF c1 hm
   refine Qbq<|Qb6<|Qb6<|Qbo<|Qaz<|qs 1 rfl ?_
   refine qm rfl<|Qa1<|Qaf ?_
   have X7 := ((Gr.refl w).kz K1)
   cases hm
   refine ⟨_, _, rfl, Qay rfl (Qac rfl), ?_⟩
   exact ⟨rfl, X7⟩
 replace hm := iT c1 hm
 refine qu<|Qa3<|Qao<|qs 2 rfl<|qm rfl ?_
 refine qm rfl<|qd 6 rfl<|qm rfl<|qm rfl<|qm rfl ?_
 obtain ⟨y3, g, hm⟩ := bnd hm
 have B3 := (f.kz K1)
 refine qv rfl (Qex (i := a2) Tryz.underlying45 (Qgc).siz rfl B3 rfl g)<|qv rfl (Qgy Qgc rfl B3 g (by first | rfl | omega)) ?_
 obtain ⟨x4, h, hm⟩ := bnd hm
 refine qe rfl (Qcn Xm7 rfl rfl (Qpc h)) ?_
 rintro _ w2 ⟨rfl, G2⟩
 refine Qa1<|Qal rfl (fun c2 => ?_) (fun c2 => ?_)
 · replace hm := Qc0 c2 hm
   refine qs 2 rfl<|qm rfl<|qm rfl<|Qa1<|Qaf<|Qbl ?_
   refine Qb2<|Qb2<|Qbl<|Qb2 ?_
   have X5 := (((Gr.refl w).kz K1).trans G2)
   cases hm
   refine ⟨_, _, rfl, Qay rfl (Qac rfl), ?_⟩
   exact ⟨rfl, X5⟩
 replace hm := Qc1 c2 hm
 refine Qc5<|Qb1<|Qaz<|qg 2 rfl<|qv rfl (Qc6 (k := .i64) (a := a2) (b := 1) rfl rfl)<|qm rfl<|Qa9 ?_
 have K_6 : Kz [] w w2 := (K1.gr G2)
 subst d
 exact ⟨rfl, ⟨n1, w64 (a2 + 1)⟩, sbq, ⟨hm, K_6⟩, Nat.lt_succ_self _⟩
theorem Qfo {p0 vp0 zp0 gp0 op0 r} (hm : Qbj p0 = some r) {w : World} (c : Rd w zp0 gp0 op0 18 vp0 (p0.map Qbd.cs)) :
    Calls Tryz.prog 125 [vp0, .func (.func 136) [].toArray [].toArray].toArray w fun e w' => ∃ v, e = .returned v ∧ (v = .bool r ∧ Gr w w') := by
 unfold Qbj at hm
 refine Qa5 9 Tryz.func125 rfl rfl rfl<|qs 1 rfl<|qm rfl<|qd 5 rfl ?_
 refine qm rfl<|qm rfl ?_
 obtain ⟨x1, d, hm⟩ := bnd hm
 refine qe rfl (eC Xgh rfl (Qgd d c)) ?_
 rintro _ w1 ⟨rfl, G1⟩
 refine qv rfl (Qdy (a := x1) (b := 0) rfl rfl)<|qm rfl<|Qa1<|Qaf ?_
 have X3 := ((Gr.refl w).trans G1)
 cases hm
 refine ⟨_, _, rfl, Qay rfl (Qac rfl), ?_⟩
 exact ⟨rfl, X3⟩
theorem Qgg {p0 vp0_2 zp0_2 gp0_2 op0_2 vp0_4 zp0_4 gp0_4 op0_4 vp0_39 zp0_39 gp0_39 op0_39 r} (hm : Qd2 p0 = some r) {w : World} (j : Rd w zp0_2 gp0_2 op0_2 18 vp0_2 (p0.Head.Items.map Qbd.cs)) (k : Rd w zp0_4 gp0_4 op0_4 2 vp0_4 (p0.Head.Points.map Qag.cs)) (f : Rd w zp0_39 gp0_39 op0_39 1 vp0_39 (p0.Data.map bvc)) :
    Calls Tryz.prog 60 [.agg (Qa4.cs p0 vp0_2 vp0_4 vp0_39).toArray].toArray w fun e w' => ∃ v, e = .returned v ∧ (v = .int .i64 r ∧ Gr w w') := by
 have B := j.lth
 have C := k.lth
 have D := f.lth
 unfold Qd2 at hm
 refine Qa5 99 Tryz.func60 rfl rfl rfl<|qs 2 rfl<|qe rfl (Qat (cs := Qa4.cs p0 vp0_2 vp0_4 vp0_39) rfl rfl) ?_
 rintro _ w1 ⟨b1, rfl, R, m, G1⟩
 have T := m.lt
 refine qm rfl<|qd 4 rfl<|qv rfl (Qa0 Qd9 rfl)<|qv rfl (Qb9 (vs := Qa8.cs p0.Head vp0_2 vp0_4) Qcp rfl m rfl rfl)<|qe rfl (Qaa (cs := Qa8.cs (Qa8.mk [] 0#64 [] k0 k0) (.slice none 0 0) (.slice none 0 0)) Qtd rfl) ?_
 rintro _ w2 ⟨b2, rfl, S, G, G2⟩
 have Y1 := Gr.trans G1 G2
 have B8 := (j.gr Y1)
 have B9 := (k.gr Y1)
 refine qe rfl (Qah Qcp rfl rfl (Qa8.cs_ones _ _ _ (Rd.oneB B8) (Rd.oneB B9)) G rfl rfl) ?_
 rintro _ w3 ⟨g, M3⟩
 refine Qa1 ?_
 have H := (((Gr.refl w).trans Y1).md M3)
 refine qj (β := Bool) ([4] ++ rg 9 27) (fun a1 => [(4, .bool a1)]) (fun a1 wr => (Qck p0 a1 = some r) ∧ Kz [] w3 wr) ?_ ?_
 · refine qg 28 rfl<|qv rfl (Qa0 Qfw rfl)<|qv rfl (Qa2 (v := vp0_2) Qi5 rfl g rfl) ?_
   have I := (B8.md M3 (Qan B))
   refine qv rfl (Qba (l := p0.Head.Items) (c := Qbd.cs) Tryz.underlying45 rfl I)<|qv rfl (Qdj (a := (p0.Head.Items.length : Int)) (b := 0) rfl rfl)<|qpF rfl (Qad rfl) (fun n => ?_) (fun n => ?_)
   · replace hm := iF n hm
     refine qk rfl<|qk rfl<|qk rfl<|qk rfl<|qm rfl<|qm rfl<|qk rfl ?_
     refine qk rfl<|qk rfl<|qm rfl<|qm rfl<|qk rfl<|qk rfl<|qk rfl ?_
     refine qk rfl<|qm rfl<|qm rfl<|qk rfl<|qk rfl<|qk rfl<|qk rfl ?_
     refine qm rfl<|qm rfl<|Qa9 ?_
     exact ⟨rfl, false, sbq, hm, kz0⟩
   replace hm := iT n hm
   refine qv rfl (Qa0 Qee rfl)<|qv rfl (Qa2 (v := vp0_4) Qg3 rfl g rfl) ?_
   have J := (B9.md M3 (Qan C))
   refine qv rfl (Qba (l := p0.Head.Points) (c := Qag.cs) Tryz.underlying46 rfl J)<|qv rfl (Qdj (a := (p0.Head.Points.length : Int)) (b := 0) rfl rfl)<|qm rfl<|qpF rfl (Qad rfl) (fun o => ?_) (fun o => ?_)
   · replace hm := iF o hm
     refine qk rfl<|qk rfl<|qk rfl<|qm rfl<|qm rfl<|qk rfl<|qk rfl ?_
     refine qk rfl<|qk rfl<|qm rfl<|qm rfl<|qk rfl<|qk rfl<|qk rfl ?_
     refine qk rfl<|qm rfl<|qm rfl<|Qa9 ?_
     exact ⟨rfl, false, sbq, hm, kz0⟩
   replace hm := iT o hm
   refine qv rfl (Qa0 Qlz rfl)<|qv rfl (Qa2 (v := wv p0.Head.Base) Qb7 rfl g rfl)<|qv rfl (Qqt (c := p0.Head.Base) (d := 0#64) rfl rfl)<|qm rfl<|qpF rfl (Qad rfl) (fun s => ?_) (fun s => ?_)
   · replace hm := iF s hm
     refine qk rfl<|qk rfl<|qk rfl<|qk rfl<|qm rfl<|qm rfl<|qk rfl ?_
     refine qk rfl<|qk rfl<|qk rfl<|qm rfl<|qm rfl<|Qa9 ?_
     exact ⟨rfl, false, sbq, hm, kz0⟩
   replace hm := iT s hm
   refine qv rfl (Qa0 Qlt rfl)<|qv rfl (Qb9 (vs := kb p0.Head.Box) Qai rfl g rfl rfl)<|qv rfl (Qe1 Qop)<|qv rfl (Qtf (cf := kb) (a := p0.Head.Box) (b := k0) Qpd rfl rfl rfl rfl (fun h => Qlj h))<|qm rfl<|qpF rfl (Qad rfl) (fun t => ?_) (fun t => ?_)
   · replace hm := iF t hm
     refine qk rfl<|qk rfl<|qk rfl<|qk rfl<|qm rfl<|qm rfl<|Qa9 ?_
     exact ⟨rfl, false, sbq, hm, kz0⟩
   replace hm := iT t hm
   refine qv rfl (Qa0 Qn3 rfl)<|qv rfl (Qb9 (vs := kb p0.Head.Check) Qai rfl g rfl rfl)<|qv rfl (Qe1 Qop)<|qv rfl (Qtf (cf := kb) (a := p0.Head.Check) (b := k0) Qpd rfl rfl rfl rfl (fun h => Qlj h))<|qm rfl<|qm rfl<|Qa9 ?_
   exact ⟨rfl, (decide (p0.Head.Check = k0)), sbq, hm, kz0⟩
 clear hm; rintro a1 w4 ⟨hm, K4⟩
 unfold Qck at hm
 refine qs 1 rfl<|qm rfl<|qd 1 rfl<|qm rfl ?_
 refine Qa1 ?_
 have E := (H.kz K4)
 refine qj (β := Bool) ([6] ++ rg 36 61) (fun a2 => [(6, .bool a2)]) (fun a2 wr => (Qbc a2 = some r) ∧ Kz [] w4 wr) ?_ ?_
 · refine qs 2 rfl<|qv rfl (Qa0 Qom rfl) ?_
   have i := (((m.gr G2).md M3).kz K4)
   refine qv rfl (Qa2 (v := bv p0.Kind) Qcd rfl i rfl)<|Qa1<|Qao<|qs 2 rfl<|qv rfl (Qga (p := p0.Kind) (q := 1#8) rfl rfl)<|qm rfl ?_
   refine Qa1<|cnF rfl (fun c2 => ?_) (fun c2 => ?_)
   · replace hm := iF c2 hm
     refine qs 2 rfl<|qv rfl (Qga (p := p0.Kind) (q := 2#8) rfl rfl)<|qm rfl<|Qa1<|cnF rfl (fun c9 => ?_) (fun c9 => ?_)
     · replace hm := iF c9 hm
       refine Qc5<|Qb1 ?_
       exact ⟨rfl, false, sbq, hm, kz0⟩
     replace hm := iT c9 hm
     refine qg 18 rfl<|qv rfl (Qa0 Qlh rfl)<|qv rfl (Qa2 (v := .int .i64 p0.Epoch) Qb3 rfl i rfl)<|qv rfl (Qdj (a := p0.Epoch) (b := 0) rfl rfl)<|qpF rfl (Qad rfl) (fun u => ?_) (fun u => ?_)
     · replace hm := iF u hm
       refine qk rfl<|qk rfl<|qk rfl<|qm rfl<|qm rfl<|qk rfl<|qk rfl ?_
       refine qk rfl<|qk rfl<|qm rfl<|qm rfl<|qk rfl<|qm rfl<|qm rfl ?_
       refine Qa9<|Qb1 ?_
       exact ⟨rfl, false, sbq, hm, kz0⟩
     replace hm := iT u hm
     refine qv rfl (Qa0 Qqq rfl)<|qv rfl (Qa2 (v := bv p0.Low) Qcd rfl i rfl)<|qv rfl (Qro (p := p0.Low) (q := 4#8) rfl rfl)<|qm rfl<|qpF rfl (Qad rfl) (fun x => ?_) (fun x => ?_)
     · replace hm := iF x hm
       refine qk rfl<|qk rfl<|qk rfl<|qk rfl<|qm rfl<|qm rfl<|qk rfl ?_
       refine qm rfl<|qm rfl<|Qa9<|Qb1 ?_
       exact ⟨rfl, false, sbq, hm, kz0⟩
     replace hm := iT x hm
     refine qv rfl (Qa0 Qlv rfl)<|qv rfl (Qa2 (v := vp0_39) Qg2 rfl i rfl) ?_
     have K := (((f.gr Y1).md M3 (Qan D)).kz K4)
     refine qv rfl (Qba (l := p0.Data) (c := bvc) Tryz.underlying50 rfl K)<|qv rfl (Qn9 (a := (p0.Data.length : Int)) (b := 256) rfl rfl)<|qm rfl<|qp rfl (Qad rfl) (fun y => ?_) (fun y => ?_)
     · replace hm := iT y hm
       refine qm rfl<|qm rfl<|qm rfl<|Qa9<|Qb1 ?_
       exact ⟨rfl, a1, sbq, hm, kz0⟩
     replace hm := iF y hm
     refine qk rfl<|qm rfl<|qm rfl<|Qa9<|Qb1 ?_
     exact ⟨rfl, false, sbq, hm, kz0⟩
   replace hm := iT c2 hm
   refine qg 39 rfl<|qv rfl (Qa0 Qlh rfl)<|qv rfl (Qa2 (v := .int .i64 p0.Epoch) Qb3 rfl i rfl) ?_
   obtain ⟨x3, L, hm⟩ := bnd hm
   refine qe rfl (eC Qxb rfl (Qen L)) ?_
   rintro _ w6 ⟨rfl, G6⟩
   refine qpF rfl (Qad rfl) (fun c3 => ?_) (fun c3 => ?_)
   · replace hm := Qc1 c3 hm
     refine qk rfl<|qk rfl<|qk rfl<|qm rfl<|qm rfl<|qk rfl<|qk rfl ?_
     refine qk rfl<|qm rfl<|qm rfl<|qk rfl<|qk rfl<|qk rfl<|qk rfl ?_
     refine qm rfl<|qm rfl<|qk rfl<|qk rfl<|qk rfl<|qk rfl<|qm rfl ?_
     refine qm rfl<|qk rfl<|qk rfl<|qk rfl<|qk rfl<|qm rfl<|qm rfl ?_
     refine qk rfl<|qk rfl<|qk rfl<|qk rfl<|qk rfl<|qm rfl<|qm rfl ?_
     refine Qa9<|Qb1 ?_
     exact ⟨rfl, false, sbq, hm, (kz0.gr G6)⟩
   replace hm := Qc0 c3 hm
   refine qv rfl (Qa0 Qqq rfl) ?_
   have z := (i.gr G6)
   refine qv rfl (Qa2 (v := bv p0.Low) Qcd rfl z rfl)<|qv rfl (Qga (p := p0.Low) (q := 0#8) rfl rfl)<|qm rfl<|qpF rfl (Qad rfl) (fun c4 => ?_) (fun c4 => ?_)
   · replace hm := iF c4 hm
     refine qk rfl<|qk rfl<|qk rfl<|qm rfl<|qm rfl<|qk rfl<|qk rfl ?_
     refine qk rfl<|qk rfl<|qm rfl<|qm rfl<|qk rfl<|qk rfl<|qk rfl ?_
     refine qk rfl<|qm rfl<|qm rfl<|qk rfl<|qk rfl<|qk rfl<|qk rfl ?_
     refine qm rfl<|qm rfl<|qk rfl<|qk rfl<|qk rfl<|qk rfl<|qk rfl ?_
     refine qm rfl<|qm rfl<|Qa9<|Qb1 ?_
     exact ⟨rfl, false, sbq, hm, (kz0.gr G6)⟩
   replace hm := iT c4 hm
   refine qv rfl (Qa0 Qrm rfl)<|qv rfl (Qa2 (v := wv p0.Number) Qb7 rfl z rfl)<|qv rfl (Qqt (c := p0.Number) (d := 0#64) rfl rfl)<|qm rfl<|qpF rfl (Qad rfl) (fun c5 => ?_) (fun c5 => ?_)
   · replace hm := iF c5 hm
     refine qk rfl<|qk rfl<|qk rfl<|qk rfl<|qm rfl<|qm rfl<|qk rfl ?_
     refine qk rfl<|qk rfl<|qk rfl<|qm rfl<|qm rfl<|qk rfl<|qk rfl ?_
     refine qk rfl<|qk rfl<|qm rfl<|qm rfl<|qk rfl<|qk rfl<|qk rfl ?_
     refine qk rfl<|qk rfl<|qm rfl<|qm rfl<|Qa9<|Qb1 ?_
     exact ⟨rfl, false, sbq, hm, (kz0.gr G6)⟩
   replace hm := iT c5 hm
   refine qv rfl (Qa0 Qlv rfl)<|qv rfl (Qa2 (v := vp0_39) Qg2 rfl z rfl) ?_
   have M := ((((f.gr Y1).md M3 (Qan D)).kz K4).gr G6)
   refine qv rfl (Qba (l := p0.Data) (c := bvc) Tryz.underlying50 rfl M)<|qv rfl (Qdj (a := (p0.Data.length : Int)) (b := 0) rfl rfl)<|qm rfl<|qpF rfl (Qad rfl) (fun c6 => ?_) (fun c6 => ?_)
   · replace hm := iF c6 hm
     refine qk rfl<|qk rfl<|qk rfl<|qk rfl<|qm rfl<|qm rfl<|qk rfl ?_
     refine qk rfl<|qk rfl<|qk rfl<|qm rfl<|qm rfl<|qk rfl<|qk rfl ?_
     refine qk rfl<|qk rfl<|qk rfl<|qm rfl<|qm rfl<|Qa9<|Qb1 ?_
     exact ⟨rfl, false, sbq, hm, (kz0.gr G6)⟩
   replace hm := iT c6 hm
   refine qv rfl (Qa0 Qfw rfl) ?_
   have A := ((g.kz K4).gr G6)
   refine qv rfl (Qa2 (v := vp0_2) Qi5 rfl A rfl) ?_
   have F := (((B8.md M3 (Qan B)).kz K4).gr G6)
   refine qv rfl (Qba (l := p0.Head.Items) (c := Qbd.cs) Tryz.underlying45 rfl F)<|qv rfl (Qn9 (a := (p0.Head.Items.length : Int)) (b := 64) rfl rfl)<|qm rfl<|qpF rfl (Qad rfl) (fun c7 => ?_) (fun c7 => ?_)
   · replace hm := iF c7 hm
     refine qk rfl<|qk rfl<|qk rfl<|qk rfl<|qm rfl<|qm rfl<|qk rfl ?_
     refine qk rfl<|qk rfl<|qk rfl<|qk rfl<|qm rfl<|qm rfl<|Qa9 ?_
     refine Qb1 ?_
     exact ⟨rfl, false, sbq, hm, (kz0.gr G6)⟩
   replace hm := iT c7 hm
   refine qv rfl (Qa0 Qee rfl)<|qv rfl (Qa2 (v := vp0_4) Qg3 rfl A rfl) ?_
   have N := (((B9.md M3 (Qan C)).kz K4).gr G6)
   refine qv rfl (Qba (l := p0.Head.Points) (c := Qag.cs) Tryz.underlying46 rfl N)<|qv rfl (Qn9 (a := (p0.Head.Points.length : Int)) (b := 8) rfl rfl)<|qm rfl<|qpF rfl (Qad rfl) (fun c8 => ?_) (fun c8 => ?_)
   · replace hm := iF c8 hm
     refine qk rfl<|qk rfl<|qk rfl<|qk rfl<|qk rfl<|qm rfl<|qm rfl ?_
     refine Qa9<|Qb1 ?_
     exact ⟨rfl, false, sbq, hm, (kz0.gr G6)⟩
   replace hm := iT c8 hm
   refine qv rfl (Qa0 Qfw rfl)<|qv rfl (Qa2 (v := vp0_2) Qi5 rfl A rfl)<|qm rfl ?_
   obtain ⟨x4, O, hm⟩ := bnd hm
   refine qe rfl (eC Xgk rfl (Qfo O F)) ?_
   rintro _ w7 ⟨rfl, G7⟩
   refine qv rfl (Qci rfl)<|qm rfl<|qm rfl<|Qa9<|Qb1 ?_
   exact ⟨rfl, (!x4), sbq, hm, ((kz0.gr G6).gr G7)⟩
 clear hm; rintro a2 w5 ⟨hm, K5⟩
 unfold Qbc at hm
 refine Qa3<|qs 2 rfl<|qm rfl<|qv rfl (Qci rfl)<|Qa1<|Qal rfl (fun c1 => ?_) (fun c1 => ?_)
 · replace hm := Qc0 c1 hm
   refine qs 1 rfl<|qm rfl<|qb ?_
   have P := (E.kz K5)
   cases hm
   refine ⟨_, _, rfl, Qay rfl (Qac rfl), ?_⟩
   exact ⟨rfl, P⟩
 replace hm := Qc1 c1 hm
 refine qu<|qs 1 rfl<|qm rfl<|Qa1<|Qaf ?_
 have Q := (E.kz K5)
 cases hm
 refine ⟨_, _, rfl, Qay rfl (Qac rfl), ?_⟩
 exact ⟨rfl, Q⟩
theorem Qqe {p0 vp0 zp0 gp0 op0 r} (hm : Qjo p0 = some r) {w : World} (b : Rd w zp0 gp0 op0 18 vp0 (p0.map Qbv.cs)) :
    Calls Tryz.prog 83 [vp0].toArray w fun e w' => ∃ v, e = .returned v ∧ (∃ ur0_s zr0_s gr0_s, v = ur0_s ∧ Own w' zr0_s gr0_s 92 18 ur0_s (r.map Qbv.cs) ∧ Hdn (zr0_s = 0 ∨ w.heap.size ≤ gr0_s) ∧ Gr w w') := by
 unfold Qjo at hm
 refine Qa5 8 Tryz.func83 rfl rfl rfl<|qs 1 rfl<|qm rfl<|Qa1<|Qa3<|Qa3 ?_
 refine qg 2 rfl<|qm rfl ?_
 rcases Qvo b with ⟨d, a, f⟩ | ⟨t, u, d, a⟩
 · replace hm : (some []) = some r := by rw [f] at hm; exact hm
   refine qv rfl (Qnc Tryz.underlying29 rfl a)<|Qa1<|Qi8 rfl<|qs 1 rfl<|qm rfl<|Qa1 ?_
   refine Qaf<|Qb2 ?_
   cases hm
   refine ⟨_, _, rfl, Qay rfl (Qac rfl), ?_⟩
   exact ⟨(.slice none 0 0), 0, 0, rfl, (Qaw _ 0 92 18), ⟨.inl rfl⟩, (Gr.refl w)⟩
 skip
 refine qv rfl (Qnc Tryz.underlying29 rfl a)<|Qa1<|Qj9 rfl<|qu<|qs 4 rfl ?_
 refine qe rfl (Qcx ([] : List Qbv) Qbv.cs Xeg rfl rfl (Qh6 rfl) rfl rfl rfl) ?_
 rintro y w1 ⟨g, s, h, G1⟩
 have z3 := G1.size
 refine qm rfl ?_
 have B5 := (b.gr G1)
 obtain ⟨l1, i, hm⟩ := bnd hm
 refine qe rfl (Qfn (l := ([] : List Qbv)) (m := p0) (c := Qbv.cs) Xg8 rfl rfl h B5 i (by decide)) ?_
 rintro j w2 ⟨k, n, o, p, z, q⟩
 refine qm rfl<|Qa1<|Qaf ?_
 have X7 := (((Gr.refl w).trans G1).ka p (tk1 ((.inr tk0) : 1 = 0 ∨ w.heap.size ≤ g)))
 cases hm
 refine ⟨_, _, rfl, Qay rfl (Qac rfl), ?_⟩
 exact ⟨j, k, n, rfl, o, ⟨(Qg4 (A := (fun x => w.heap.size ≤ x)) q (.inr tk0))⟩, X7⟩
theorem Qsh {p0 p1 p2 vp1_1 zp1_1 gp1_1 op1_1 vp2_0 zp2_0 gp2_0 op2_0 vp2_2 zp2_2 gp2_2 op2_2 r} (hm : Qrr p0 p1 p2 = some r) {w : World} (z : Rd w zp1_1 gp1_1 op1_1 18 vp1_1 (p1.Labels.map Qbv.cs)) (A : Rd w zp2_0 gp2_0 op2_0 18 vp2_0 (p2.Items.map Qbd.cs)) (B : Rd w zp2_2 gp2_2 op2_2 2 vp2_2 (p2.Points.map Qag.cs)) :
    Calls Tryz.prog 25 [.agg (Qaj.cs p0).toArray, .agg (Qap.cs p1 vp1_1).toArray, .agg (Qa8.cs p2 vp2_0 vp2_2).toArray].toArray w fun e w' => ∃ v, e = .returned v ∧ (v = .tuple [kv r.1, .int .i64 r.2].toArray ∧ Gr w w') := by
 have n := z.lth
 have o := A.lth
 have s := B.lth
 unfold Qrr at hm
 refine Qa5 27 Tryz.func25 rfl rfl rfl<|qs 5 rfl<|qe rfl (Qat (cs := Qaj.cs p0) rfl rfl) ?_
 rintro _ w1 ⟨b1, rfl, bn, U, G1⟩
 have bI := U.lt
 refine qe rfl (Qat (cs := Qap.cs p1 vp1_1) rfl rfl) ?_
 rintro _ w2 ⟨b2, rfl, bo, L, G2⟩
 have bJ := L.lt
 refine qe rfl (Qat (cs := Qa8.cs p2 vp2_0 vp2_2) rfl rfl) ?_
 rintro _ w3 ⟨b3, rfl, bp, M, G3⟩
 have bK := M.lt
 refine qe rfl (Qaa (cs := kb k0) Qef rfl) ?_
 rintro _ w4 ⟨b4, rfl, bq, C, G4⟩
 have br := C.lt
 refine qm rfl<|qd 8 rfl ?_
 have Y1 := Gr.trans (Gr.trans G2 G3) G4
 have N := (U.gr Y1)
 refine qv rfl (Qa6 Qcq rfl N rfl)<|Qr3 33 Tryz.func61 rfl rfl rfl Xep rfl rfl rfl rfl rfl<|qs 3 rfl<|qe rfl (Qat (cs := Qaj.cs p0) rfl rfl) ?_
 rintro _ w5 ⟨b5, rfl, bs, O, G5⟩
 have bu := O.lt
 refine qe rfl (Qaa (cs := [.nilFunc, .nilFunc, .nilFunc, .nilFunc]) Qfa rfl) ?_
 rintro _ w6 ⟨b6, rfl, bw, E, G6⟩
 have bx := E.lt
 refine qm rfl<|qd 3 rfl<|qv rfl (Qau (cs := [.func (.func 121) #[] #[], .func (.func 137) #[] #[], .func (.func 53) #[] #[], .func (.func 138) #[] #[]]) Qko rfl rfl)<|qe rfl (Qaa (cs := [.nilFunc, .nilFunc, .nilFunc, .nilFunc]) Qfa rfl) ?_
 rintro _ w7 ⟨b7, rfl, bz, V, G7⟩
 have bA := V.lt
 refine qe rfl (Qah Qb0 rfl rfl rfl V rfl rfl) ?_
 rintro _ w8 ⟨P, M8⟩
 have bL := M8.size
 refine qd 8 rfl<|qv rfl (Qau (cs := [.nilFunc, .nilFunc, .nilFunc, .nilFunc]) Qko rfl rfl)<|qv rfl (Qb9 (vs := [.func (.func 121) #[] #[], .func (.func 137) #[] #[], .func (.func 53) #[] #[], .func (.func 138) #[] #[]]) Qb0 rfl P rfl rfl)<|qv rfl (Qb9 (vs := [.func (.func 121) #[] #[], .func (.func 137) #[] #[], .func (.func 53) #[] #[], .func (.func 138) #[] #[]]) Qb0 rfl P rfl rfl)<|qv rfl (Qb9 (vs := [.func (.func 121) #[] #[], .func (.func 137) #[] #[], .func (.func 53) #[] #[], .func (.func 138) #[] #[]]) Qb0 rfl P rfl rfl) ?_
 refine qv rfl (Qau (cs := [.func (.func 139) #[] #[], .func (.func 140) #[] #[], .func (.func 50) #[] #[], .func (.func 49) #[] #[]]) Qko rfl rfl)<|qv rfl (Qp1 (cs := [.nilFunc, .nilFunc, .nilFunc, .nilFunc, .func (.func 121) #[] #[], .func (.func 137) #[] #[], .func (.func 53) #[] #[], .func (.func 138) #[] #[], .func (.func 121) #[] #[], .func (.func 137) #[] #[], .func (.func 53) #[] #[], .func (.func 138) #[] #[], .func (.func 121) #[] #[], .func (.func 137) #[] #[], .func (.func 53) #[] #[], .func (.func 138) #[] #[], .func (.func 139) #[] #[], .func (.func 140) #[] #[], .func (.func 50) #[] #[], .func (.func 49) #[] #[]]) Qzo rfl rfl)<|qe rfl (Qaa (cs := [.nilFunc, .nilFunc, .nilFunc, .nilFunc, .nilFunc, .nilFunc, .nilFunc, .nilFunc, .nilFunc, .nilFunc, .nilFunc, .nilFunc, .nilFunc, .nilFunc, .nilFunc, .nilFunc, .nilFunc, .nilFunc, .nilFunc, .nilFunc]) Qwf rfl) ?_
 rintro _ w9 ⟨b9, rfl, bB, W, G9⟩
 have bC := W.lt
 refine qe rfl (Qah Qv7 rfl rfl rfl W rfl rfl) ?_
 rintro _ av ⟨I, d⟩
 have bM := d.size
 refine Qa1<|Qa3 ?_
 have Y2 := Gr.trans (Gr.trans (Gr.trans (Gr.trans G1 Y1) G5) G6) G7
 have D := (((((Gr.refl w).trans Y2).md M8).trans G9).md d)
 refine qj (β := Bool) (rg 14 9) (fun a1 => [(22, .bool a1)]) (fun a1 wr => (Ql3 p0 p1 p2 a1 = some r) ∧ Kz [] av wr) ?_ ?_
 · refine qg 9 rfl<|qv rfl (Qa0 Qhj rfl) ?_
   have Y3 := Gr.trans G6 G7
   have X := ((((O.gr Y3).md M8).gr G9).md d)
   refine qv rfl (Qa2 (v := bv p0.Kind) Qcd rfl X rfl)<|qv rfl (Qro (p := p0.Kind) (q := 1#8) rfl rfl)<|qp rfl (Qad rfl) (fun c6 => ?_) (fun c6 => ?_)
   · replace hm := iT c6 hm
     refine qk rfl<|qk rfl<|qk rfl<|qk rfl<|qm rfl<|Qa9 ?_
     exact ⟨rfl, true, sbq, hm, kz0⟩
   replace hm := iF c6 hm
   refine qv rfl (Qa0 Qhj rfl)<|qv rfl (Qa2 (v := bv p0.Kind) Qcd rfl X rfl)<|qv rfl (Qte Qmn rfl)<|qv rfl (Qdy (a := un8 p0.Kind) (b := 5) rfl rfl)<|qm rfl<|Qa9 ?_
   exact ⟨rfl, (decide ((5 : Int) ≤ un8 p0.Kind)), sbq, hm, kz0⟩
 clear hm; rintro a1 bN ⟨hm, c⟩
 have bO := c.size
 unfold Ql3 at hm
 refine Qal rfl (fun c1 => ?_) (fun c1 => ?_)
 · replace hm := Qc0 c1 hm
   refine qs 3 rfl<|qv rfl (Qau (cs := [.nilFunc, .nilFunc, .nilFunc, .nilFunc]) Qko rfl rfl) ?_
   have aw := (((((E.gr G7).md M8).gr G9).md d).kz c)
   refine qe rfl (Qah Qb0 rfl rfl rfl aw rfl rfl) ?_
   rintro _ bP ⟨Y, Q⟩
   have bQ := Q.size
   refine qm rfl<|qb<|⟨_, _, rfl, Qbm rfl (Qaq Qb0 rfl Y rfl) (Qac rfl), ?_⟩
   refine qm rfl<|qm rfl<|qm rfl<|qe rfl (Qaa (cs := [.nilFunc, .nilFunc, .nilFunc, .nilFunc]) Qfa rfl) ?_
   rintro _ bR ⟨bS, rfl, ax, Z, aa⟩
   refine qe rfl (Qah Qb0 rfl rfl rfl Z rfl rfl) ?_
   rintro _ bT ⟨bD, ab⟩
   refine qm rfl<|Qa1<|Qa3<|qs 2 rfl<|qm rfl<|qv rfl (Qby (a := 2) (b := 0) rfl rfl) ?_
   refine Qa1<|Qi8 rfl<|qs 4 rfl<|qv rfl (Qe1 Qop)<|qm rfl ?_
   have Y4 := Gr.trans (Gr.trans G5 G6) G7
   have ay := ((((((((C.gr Y4).md M8).gr G9).md d).kz c).md Q).gr aa).md ab)
   refine qe rfl (Qah Qai rfl rfl rfl ay rfl rfl) ?_
   rintro _ bU ⟨ac, az⟩
   refine qm rfl<|qb ?_
   have aA := (((((D.kz c).md Q).trans aa).md ab).md az)
   cases hm
   refine ⟨_, _, rfl, Qbm rfl (Qaq Qai rfl ac rfl) (Qac rfl), ?_⟩
   exact ⟨rfl, aA⟩
 replace hm := Qc1 c1 hm
 refine qu<|qs 6 rfl<|qv rfl (Qa0 Qhj rfl) ?_
 have Y5 := Gr.trans G6 G7
 have R := (((((O.gr Y5).md M8).gr G9).md d).kz c)
 refine qv rfl (Qa2 (v := bv p0.Kind) Qcd rfl R rfl) ?_
 by_cases c2 : (un8 p0.Kind = 1 ∨ un8 p0.Kind = 2 ∨ un8 p0.Kind = 3)
 · replace hm := Qv0 c2 hm
   refine qv rfl (Qsb Tryz.underlying206 (Qb0).siz rfl rfl (by omega)) ?_
   have aB := (I.kz c)
   refine qv rfl (Qb9 (vs := [.func (.func 121) #[] #[], .func (.func 137) #[] #[], .func (.func 53) #[] #[], .func (.func 138) #[] #[]]) Qb0 rfl aB (by rcases c2 with h | h | h <;> rw [h] <;> rfl) rfl)<|qe rfl (Qaa (cs := [.nilFunc, .nilFunc, .nilFunc, .nilFunc]) Qfa rfl) ?_
   rintro _ bV ⟨bW, rfl, aC, J, k⟩
   have bE := J.lt
   refine qe rfl (Qah Qb0 rfl rfl rfl J rfl rfl) ?_
   rintro _ bX ⟨ad, f⟩
   have bY := f.size
   refine Qa1<|Qa3<|dw [([b6])] [] (.leaf [(0,10),(1,10),(2,10),(3,10),(4,0),(5,0),(6,10)]) ?_
   intro aD S bF
   refine Qam ?_
   have ae := (ad.gr S)
   refine dh 0 rfl rfl (fun w hS => Qb9 (vs := [.func (.func 121) #[] #[], .func (.func 137) #[] #[], .func (.func 53) #[] #[], .func (.func 138) #[] #[]]) Qb0 rfl (Bx.kp ae hS) rfl rfl)<|dh 0 rfl rfl (fun w hS => Qa0 Qmi rfl)<|dh 0 rfl rfl (fun w hS => Qa2 (v := .func (.func 121) #[] #[]) Qr4 rfl (Bx.kp ae hS) rfl) ?_
   have aE := (((R.gr k).md f).gr S)
   refine dh 0 rfl rfl (fun w hS => Qa6 Qcq rfl (Bx.kp aE hS) rfl) ?_
   obtain ⟨x2, aF, hm⟩ := bnd hm
   refine qz [] rfl (Qcn Qw4 rfl rfl (Qjg aF)) ⟨fun _ => tk0, trivial⟩ ?_
   rintro _ bZ ⟨rfl, F⟩
   have b0 := F.size
   refine kG F ?_
   have Y6 := Gr.trans S F
   have aG := ((((((((E.gr G7).md M8).gr G9).md d).kz c).gr k).md f).gr Y6)
   refine qz [(1, b6)] rfl (Qah Qb0 rfl rfl rfl aG rfl rfl) ⟨fun _ => tk0, trivial⟩ ?_
   rintro _ b8 ⟨af, g⟩
   have ca := g.size
   refine kM g ?_
   have aH := (((Kp.refl ([b6]) aD).gr F).md g)
   refine dn 0 rfl rfl aH<|Qa1<|Qaf<|⟨_, _, rfl, Qbm rfl (Qaq Qb0 rfl af rfl) (Qac rfl), ?_⟩
   refine qm rfl<|qm rfl<|qm rfl<|qe rfl (Qaa (cs := [.nilFunc, .nilFunc, .nilFunc, .nilFunc]) Qfa rfl) ?_
   rintro _ cb ⟨cc, rfl, aI, ag, t⟩
   refine qe rfl (Qah Qb0 rfl rfl rfl ag rfl rfl) ?_
   rintro _ cd ⟨ah, u⟩
   refine qm rfl<|Qa1<|Qa3<|qs 2 rfl<|qm rfl<|qv rfl (Qby (a := x2) (b := 0) rfl rfl) ?_
   refine Qa1<|Qal rfl (fun c3 => ?_) (fun c3 => ?_)
   · replace hm := iT c3 hm
     refine qs 4 rfl<|qv rfl (Qe1 Qop)<|qm rfl ?_
     have Y7 := Gr.trans G5 Y5
     have aJ := (((((((((((C.gr Y7).md M8).gr G9).md d).kz c).gr k).md f).gr Y6).md g).gr t).md u)
     refine qe rfl (Qah Qai rfl rfl rfl aJ rfl rfl) ?_
     rintro _ ce ⟨ai, aK⟩
     refine qm rfl<|qb ?_
     have aL := ((((((((D.kz c).trans k).md f).trans Y6).md g).trans t).md u).md aK)
     cases hm
     refine ⟨_, _, rfl, Qbm rfl (Qaq Qai rfl ai rfl) (Qac rfl), ?_⟩
     exact ⟨rfl, aL⟩
   replace hm := iF c3 hm
   refine qu<|qs 10 rfl<|qv rfl (Qa0 Qza rfl)<|qv rfl (Qa2 (v := .func (.func 53) #[] #[]) Xby rfl ah rfl) ?_
   have Y8 := Gr.trans G5 Y5
   have aM := (((((((((((N.gr Y8).md M8).gr G9).md d).kz c).gr k).md f).gr Y6).md g).gr t).md u)
   refine qv rfl (Qa6 Qcq rfl aM rfl) ?_
   have Y9 := Gr.trans (Gr.trans G3 G4) Y8
   have aN := (((((((((((L.gr Y9).md M8).gr G9).md d).kz c).gr k).md f).gr Y6).md g).gr t).md u)
   refine qv rfl (Qa6 Qeq rfl aN rfl) ?_
   have aO := Gr.trans G4 Y8
   have aP := (((((((((((M.gr aO).md M8).gr G9).md d).kz c).gr k).md f).gr Y6).md g).gr t).md u)
   refine qv rfl (Qa6 Qcp rfl aP rfl) ?_
   have aQ := (((((((((((z.gr Y2).md M8 (Qan n)).gr G9).md d (Qan n)).kz c).gr k).md f (Qan n)).gr Y6).md g (Qan n)).gr t).md u (Qan n))
   have aR := (((((((((((A.gr Y2).md M8 (Qan o)).gr G9).md d (Qan o)).kz c).gr k).md f (Qan o)).gr Y6).md g (Qan o)).gr t).md u (Qan o))
   have aS := (((((((((((B.gr Y2).md M8 (Qan s)).gr G9).md d (Qan s)).kz c).gr k).md f (Qan s)).gr Y6).md g (Qan s)).gr t).md u (Qan s))
   obtain ⟨x3, aT, hm⟩ := bnd hm
   refine qe rfl (Qcn Xmy rfl rfl (Qwn aT aQ aR aS)) ?_
   rintro _ cf ⟨rfl, aj⟩
   refine qm rfl<|qm rfl ?_
   have aU := ((((((((((((C.gr Y8).md M8).gr G9).md d).kz c).gr k).md f).gr Y6).md g).gr t).md u).gr aj)
   refine qe rfl (Qah Qai rfl rfl rfl aU rfl rfl) ?_
   rintro _ cg ⟨ak, aV⟩
   refine qm rfl<|Qa1<|Qaf ?_
   have aW := (((((((((D.kz c).trans k).md f).trans Y6).md g).trans t).md u).trans aj).md aV)
   cases hm
   refine ⟨_, _, rfl, Qbm rfl (Qaq Qai rfl ak rfl) (Qac rfl), ?_⟩
   exact ⟨rfl, aW⟩
 replace hm := Qvq c2 hm
 by_cases c4 : (un8 p0.Kind = 4)
 · replace hm := Qv0 c4 hm
   refine qv rfl (Qsb Tryz.underlying206 (Qb0).siz rfl rfl (by omega)) ?_
   have aX := (I.kz c)
   refine qv rfl (Qb9 (vs := [.func (.func 139) #[] #[], .func (.func 140) #[] #[], .func (.func 50) #[] #[], .func (.func 49) #[] #[]]) Qb0 rfl aX (by rw [c4]; rfl) rfl)<|qe rfl (Qaa (cs := [.nilFunc, .nilFunc, .nilFunc, .nilFunc]) Qfa rfl) ?_
   rintro _ ch ⟨ci, rfl, aY, K, l⟩
   have bG := K.lt
   refine qe rfl (Qah Qb0 rfl rfl rfl K rfl rfl) ?_
   rintro _ cj ⟨al, i⟩
   have ck := i.size
   refine Qa1<|Qa3<|dw [([b6])] [] (.leaf [(0,10),(1,10),(2,10),(3,10),(4,0),(5,0),(6,10)]) ?_
   intro aZ T bH
   refine Qam ?_
   have am := (al.gr T)
   refine dh 0 rfl rfl (fun w hS => Qb9 (vs := [.func (.func 139) #[] #[], .func (.func 140) #[] #[], .func (.func 50) #[] #[], .func (.func 49) #[] #[]]) Qb0 rfl (Bx.kp am hS) rfl rfl)<|dh 0 rfl rfl (fun w hS => Qa0 Qmi rfl)<|dh 0 rfl rfl (fun w hS => Qa2 (v := .func (.func 139) #[] #[]) Qr4 rfl (Bx.kp am hS) rfl) ?_
   have a0 := (((R.gr l).md i).gr T)
   refine dh 0 rfl rfl (fun w hS => Qa6 Qcq rfl (Bx.kp a0 hS) rfl) ?_
   obtain ⟨x4, a2, hm⟩ := bnd hm
   refine qz [] rfl (Qcn Qzi rfl rfl (Qmm a2)) ⟨fun _ => tk0, trivial⟩ ?_
   rintro _ cl ⟨rfl, G⟩
   have cm := G.size
   refine kG G ?_
   have m := Gr.trans T G
   have a3 := ((((((((E.gr G7).md M8).gr G9).md d).kz c).gr l).md i).gr m)
   refine qz [(1, b6)] rfl (Qah Qb0 rfl rfl rfl a3 rfl rfl) ⟨fun _ => tk0, trivial⟩ ?_
   rintro _ cn ⟨an, j⟩
   have co := j.size
   refine kM j ?_
   have a4 := (((Kp.refl ([b6]) aZ).gr G).md j)
   refine dn 0 rfl rfl a4<|Qa1<|Qaf<|⟨_, _, rfl, Qbm rfl (Qaq Qb0 rfl an rfl) (Qac rfl), ?_⟩
   refine qm rfl<|qm rfl<|qm rfl<|qe rfl (Qaa (cs := [.nilFunc, .nilFunc, .nilFunc, .nilFunc]) Qfa rfl) ?_
   rintro _ cp ⟨cq, rfl, a5, ao, x⟩
   refine qe rfl (Qah Qb0 rfl rfl rfl ao rfl rfl) ?_
   rintro _ cr ⟨ap, y⟩
   refine qm rfl<|Qa1<|Qa3<|qs 2 rfl<|qm rfl<|qv rfl (Qby (a := x4) (b := 0) rfl rfl) ?_
   refine Qa1<|Qal rfl (fun c5 => ?_) (fun c5 => ?_)
   · replace hm := iT c5 hm
     refine qs 4 rfl<|qv rfl (Qe1 Qop)<|qm rfl ?_
     have a6 := Gr.trans G5 Y5
     have a7 := (((((((((((C.gr a6).md M8).gr G9).md d).kz c).gr l).md i).gr m).md j).gr x).md y)
     refine qe rfl (Qah Qai rfl rfl rfl a7 rfl rfl) ?_
     rintro _ ct ⟨aq, a8⟩
     refine qm rfl<|qb ?_
     have a9 := ((((((((D.kz c).trans l).md i).trans m).md j).trans x).md y).md a8)
     cases hm
     refine ⟨_, _, rfl, Qbm rfl (Qaq Qai rfl aq rfl) (Qac rfl), ?_⟩
     exact ⟨rfl, a9⟩
   replace hm := iF c5 hm
   refine qu<|qs 10 rfl<|qv rfl (Qa0 Qza rfl)<|qv rfl (Qa2 (v := .func (.func 50) #[] #[]) Xby rfl ap rfl) ?_
   have H := Gr.trans G5 Y5
   have ba := (((((((((((N.gr H).md M8).gr G9).md d).kz c).gr l).md i).gr m).md j).gr x).md y)
   refine qv rfl (Qa6 Qcq rfl ba rfl) ?_
   have bb := Gr.trans (Gr.trans G3 G4) H
   have bc := (((((((((((L.gr bb).md M8).gr G9).md d).kz c).gr l).md i).gr m).md j).gr x).md y)
   refine qv rfl (Qa6 Qeq rfl bc rfl) ?_
   have bd := Gr.trans G4 H
   have bf := (((((((((((M.gr bd).md M8).gr G9).md d).kz c).gr l).md i).gr m).md j).gr x).md y)
   refine qv rfl (Qa6 Qcp rfl bf rfl) ?_
   have bg := (((((((((((z.gr Y2).md M8 (Qan n)).gr G9).md d (Qan n)).kz c).gr l).md i (Qan n)).gr m).md j (Qan n)).gr x).md y (Qan n))
   have bh := (((((((((((A.gr Y2).md M8 (Qan o)).gr G9).md d (Qan o)).kz c).gr l).md i (Qan o)).gr m).md j (Qan o)).gr x).md y (Qan o))
   have bi := (((((((((((B.gr Y2).md M8 (Qan s)).gr G9).md d (Qan s)).kz c).gr l).md i (Qan s)).gr m).md j (Qan s)).gr x).md y (Qan s))
   obtain ⟨x5, bj, hm⟩ := bnd hm
   refine qe rfl (Qcn Xn2 rfl rfl (Qxn bj bg bh bi)) ?_
   rintro _ cu ⟨rfl, ar⟩
   refine qm rfl<|qm rfl ?_
   have bk := ((((((((((((C.gr H).md M8).gr G9).md d).kz c).gr l).md i).gr m).md j).gr x).md y).gr ar)
   refine qe rfl (Qah Qai rfl rfl rfl bk rfl rfl) ?_
   rintro _ cv ⟨au, bl⟩
   refine qm rfl<|Qa1<|Qaf ?_
   have bm := (((((((((D.kz c).trans l).md i).trans m).md j).trans x).md y).trans ar).md bl)
   cases hm
   refine ⟨_, _, rfl, Qbm rfl (Qaq Qai rfl au rfl) (Qac rfl), ?_⟩
   exact ⟨rfl, bm⟩
 replace hm := Qvq c4 hm
 cases hm
theorem Qvu {p0 p1 p2 p3 p4 bp2 vp2_1 zp2_1 gp2_1 op2_1 vp3_2 zp3_2 gp3_2 op3_2 vp3_4 zp3_4 gp3_4 op3_4 vp3_39 zp3_39 gp3_39 op3_39 r} (hm : Qqm p0 p1 p2 p3 p4 = some r) {w : World} (hbp2 : Bx w bp2 78 (Qae.cs p2 vp2_1)) (j : Rd w zp2_1 gp2_1 op2_1 18 vp2_1 (p2.Secret.Labels.map Qbv.cs)) (f : Rd w zp3_2 gp3_2 op3_2 18 vp3_2 (p3.Head.Items.map Qbd.cs)) (g : Rd w zp3_4 gp3_4 op3_4 2 vp3_4 (p3.Head.Points.map Qag.cs)) (p : Rd w zp3_39 gp3_39 op3_39 1 vp3_39 (p3.Data.map bvc)) (aR : Hdn (zp2_1 = 0 ∨ gp2_1 ≠ bp2)) (aS : Hdn (zp3_2 = 0 ∨ gp3_2 ≠ bp2)) (aT : Hdn (zp3_4 = 0 ∨ gp3_4 ≠ bp2)) (aU : Hdn (zp3_39 = 0 ∨ gp3_39 ≠ bp2)) :
    Calls Tryz.prog 84 [.agg (Qaj.cs p0).toArray, .agg (Qf7.cs p1).toArray, .pointer (some ⟨bp2, 0, none⟩), .agg (Qa4.cs p3 vp3_2 vp3_4 vp3_39).toArray, .int .i64 p4].toArray w fun e w' => ∃ v, e = .returned v ∧ (v = .int .i64 r.1 ∧ Bx w' bp2 78 (Qae.cs r.2 vp2_1) ∧ Kz [(1, bp2)] w w') := by
 unfold Qqm at hm
 refine Qa5 66 Tryz.func84 rfl rfl rfl<|qs 4 rfl<|qe rfl (Qat (cs := Qaj.cs p0) rfl rfl) ?_
 rintro _ w1 ⟨b1, rfl, aM, U, G1⟩
 refine qe rfl (Qat (cs := Qf7.cs p1) rfl rfl) ?_
 rintro _ w2 ⟨b2, rfl, aN, V, G2⟩
 refine qe rfl (Qat (cs := Qa4.cs p3 vp3_2 vp3_4 vp3_39) rfl rfl) ?_
 rintro _ w3 ⟨b3, rfl, aO, W, G3⟩
 refine qm rfl<|Qa1<|Qa3<|dw [([])] [] (.leaf [(0,10),(1,10),(2,10),(3,10),(4,10),(5,10),(6,10),(7,10)]) ?_
 intro w4 G4 aV
 refine Qam<|dm 0 rfl rfl<|dh 0 rfl rfl (fun w hS => Qa0 Qlh rfl) ?_
 have k := (W.gr G4)
 refine dh 0 rfl rfl (fun w hS => Qa2 (v := .int .i64 p3.Epoch) Qb3 rfl (Bx.kp k hS) rfl) ?_
 obtain ⟨x1, X, hm⟩ := bnd hm
 refine dh 0 rfl rfl (fun w hS => Qj5 (a := p3.Epoch) (b := 2) rfl rfl X)<|dh 0 rfl rfl (fun w hS => Qcc rfl rfl)<|dh 0 rfl rfl (fun w hS => Qa0 Qxx rfl) ?_
 obtain ⟨y2, n, hm⟩ := bnd hm
 refine dh 0 rfl rfl (fun w hS => Xfr (l := [p2.Slots.a0, p2.Slots.a1]) (i := x1) Tryz.underlying76 (Qo5).siz rfl rfl n rfl)<|dm 0 rfl rfl<|Qa1<|Qa3<|qs 6 rfl ?_
 have Y1 := Gr.trans G3 G4
 have Y := (V.gr Y1)
 refine qv rfl (Qa6 Qh2 rfl Y rfl)<|qm rfl<|qv rfl (Qa0 Qlh rfl)<|qv rfl (Qa2 (v := .int .i64 p3.Epoch) Qb3 rfl k rfl) ?_
 obtain ⟨x3, Z, hm⟩ := bnd hm
 refine qe rfl (eC Xkl rfl (Qq2 Z)) ?_
 rintro _ w5 ⟨rfl, G5⟩
 refine qv rfl (Qci rfl)<|Qa1<|Qal rfl (fun c1 => ?_) (fun c1 => ?_)
 · replace hm := Qc0 c1 hm
   refine qs 1 rfl<|qm rfl<|qb ?_
   have Y2 := Gr.trans (Gr.trans (Gr.trans G1 G2) Y1) G5
   have aa := (hbp2.gr Y2)
   have ab := ((Kz.refl [(1, bp2)] w).gr Y2)
   cases hm
   refine ⟨_, _, rfl, Qay rfl (Qac rfl), ?_⟩
   exact ⟨rfl, aa, ab⟩
 replace hm := Qc1 c1 hm
 refine qu<|Qa3 ?_
 have Y3 := Gr.trans (Gr.trans (Gr.trans G1 G2) Y1) G5
 have H := ((Kz.refl [(1, bp2)] w).gr Y3)
 refine qj (β := Bool) (rg 27 13) (fun a4 => [(39, .bool a4)]) (fun a4 wr => (Qk7 p0 p2 p3 x1 a4 = some r) ∧ Kz [] w5 wr) ?_ ?_
 · refine dw [([])] [] (.leaf [(0,10),(1,10),(2,10),(3,10),(4,10),(5,10),(6,10),(7,10),(8,10),(9,10),(10,10),(11,10),(12,10)]) ?_
   intro ac s aP
   refine Qam<|dm 0 rfl rfl<|dh 0 rfl rfl (fun w hS => Qcc rfl rfl)<|dh 0 rfl rfl (fun w hS => Qa0 Qtc rfl) ?_
   have I := ((hbp2.gr Y3).gr s)
   refine dh 0 rfl rfl (fun w hS => Qj8 (q := 0) (u := .bool y2.Full) Qrn rfl (Qyx (o := 5) (sz := 18) (xs := [p2.Slots.a0, p2.Slots.a1].map Qbr.cs) (m := 2) (cap := 2) (Bx.kp I hS) (Qil _ (fun _ => rfl) (fun _ => rfl)) rfl rfl) n (by first | rfl | omega) rfl)<|qqF 0 rfl rfl (Kp.refl ([]) ac) (fun w hS => Qad rfl) (fun c5 => ?_) (fun c5 => ?_)
   · replace hm := Qc1 c5 hm
     refine dx 0 rfl rfl<|dx 0 rfl rfl<|dx 0 rfl rfl<|dx 0 rfl rfl<|dx 0 rfl rfl<|dx 0 rfl rfl<|dx 0 rfl rfl ?_
     refine dm 0 rfl rfl<|Qa9 ?_
     exact ⟨rfl, false, sbq, hm, (kz0.gr s)⟩
   replace hm := Qc0 c5 hm
   refine dm 0 rfl rfl<|dh 0 rfl rfl (fun w hS => Qcc rfl rfl)<|dh 0 rfl rfl (fun w hS => Qa0 Qv9 rfl)<|dh 0 rfl rfl (fun w hS => Qj8 (q := 1) (u := .int .i64 y2.Epoch) Qb3 rfl (Qyx (o := 5) (sz := 18) (xs := [p2.Slots.a0, p2.Slots.a1].map Qbr.cs) (m := 2) (cap := 2) (Bx.kp I hS) (Qil _ (fun _ => rfl) (fun _ => rfl)) rfl rfl) n (by first | rfl | omega) rfl)<|dh 0 rfl rfl (fun w hS => Qa0 Qlh rfl) ?_
   have ad := ((k.gr G5).gr s)
   refine dh 0 rfl rfl (fun w hS => Qa2 (v := .int .i64 p3.Epoch) Qb3 rfl (Bx.kp ad hS) rfl)<|dh 0 rfl rfl (fun w hS => Qdy (a := y2.Epoch) (b := p3.Epoch) rfl rfl)<|dm 0 rfl rfl<|Qa9 ?_
   exact ⟨rfl, (decide (p3.Epoch ≤ y2.Epoch)), sbq, hm, (kz0.gr s)⟩
 clear hm; rintro a4 w6 ⟨hm, K6⟩
 unfold Qk7 at hm
 refine Qal rfl (fun c2 => ?_) (fun c2 => ?_)
 · replace hm := Qc0 c2 hm
   refine qs 1 rfl<|qm rfl<|qb ?_
   have ae := ((hbp2.gr Y3).kz K6)
   have af := (H.kz K6)
   cases hm
   refine ⟨_, _, rfl, Qay rfl (Qac rfl), ?_⟩
   exact ⟨rfl, ae, af⟩
 replace hm := Qc1 c2 hm
 refine qu ?_
 have A := (H.kz K6)
 refine qj (β := W2 × Int × Nat) ([12, 13] ++ rg 40 11) (fun ⟨a6, a7, bq5⟩ => [(12, .pointer (some ⟨bq5, 0, none⟩)), (13, .int .i64 a7)]) (fun ⟨a6, a7, bq5⟩ wr => (Qmt p2 p3 x1 a6 a7 = some r) ∧ Bx wr bq5 23 (kb a6) ∧ w6.heap.size ≤ bq5 ∧ Kz [] w6 wr) ?_ ?_
 · refine dw [([])] [] (.fork [(0,10),(1,10),(2,10),(3,10),(4,10),(5,10),(6,10)] (.leaf [(7,0),(8,10),(9,10),(10,10),(11,0),(12,0),(13,10)]) (.leaf [(11,0),(7,0),(8,10),(9,10),(10,10),(12,0),(13,10)])) ?_
   intro J d aQ
   refine Qbf ?_
   have Y4 := Gr.trans (Gr.trans G2 Y1) G5
   have ag := (((U.gr Y4).kz K6).gr d)
   refine dh 0 rfl rfl (fun w hS => Qa6 Qcq rfl (Bx.kp ag hS) rfl)<|dm 0 rfl rfl<|dh 0 rfl rfl (fun w hS => Qcc rfl rfl)<|dh 0 rfl rfl (fun w hS => Qa0 Qtk rfl) ?_
   have ah := (((hbp2.gr Y3).kz K6).gr d)
   refine dh 0 rfl rfl (fun w hS => Qb9 (vs := Qap.cs p2.Secret vp2_1) Qeq rfl (Bx.kp ah hS) rfl rfl)<|dh 0 rfl rfl (fun w hS => Qa0 Qd9 rfl) ?_
   have ai := (((k.gr G5).kz K6).gr d)
   refine dh 0 rfl rfl (fun w hS => Qb9 (vs := Qa8.cs p3.Head vp3_2 vp3_4) Qcp rfl (Bx.kp ai hS) rfl rfl)<|Qbx ?_ ?_
   · refine Qam ?_
     have aj := (((j.gr Y3).kz K6).gr d)
     have ak := (((f.gr Y3).kz K6).gr d)
     have al := (((g.gr Y3).kz K6).gr d)
     obtain ⟨x9, am, hm⟩ := bnd hm
     refine qz [] rfl (eC Xlr rfl (Qsh am aj ak al)) ⟨fun _ => tk0, trivial⟩ ?_
     rintro _ aW ⟨rfl, t⟩
     have aX := t.size
     refine kG t ?_
     have x := ((Kp.refl ([]) J).gr t)
     refine dn 0 rfl rfl x<|dn 0 rfl rfl x<|dn 0 rfl rfl x<|qz [] rfl (Qaa (cs := kb k0) Qef rfl) ⟨fun _ => tk0, trivial⟩ ?_
     rintro _ aY ⟨K, rfl, an, L, B⟩
     refine kG B<|qz [(1, K)] rfl (Qah Qai rfl rfl rfl L rfl rfl) ⟨fun _ => tk0, trivial⟩ ?_
     rintro _ aZ ⟨M, C⟩
     refine kM C ?_
     have ao := ((x.gr B).md C)
     refine dn 0 rfl rfl ao<|Qa9 ?_
     exact ⟨rfl, ⟨x9.1, x9.2, K⟩, sbq, hm, M, (by omega), ((((kz0.gr d).gr t).gr B).md C)⟩
   refine Qam<|qz [] rfl (Qaa (cs := kb k0) Qef rfl) ⟨fun _ => tk0, trivial⟩ ?_
   rintro _ a2 ⟨N, rfl, ap, O, D⟩
   refine kG D ?_
   have Y5 := Gr.trans d D
   have aq := (((j.gr Y3).kz K6).gr Y5)
   have ar := (((f.gr Y3).kz K6).gr Y5)
   have au := (((g.gr Y3).kz K6).gr Y5)
   obtain ⟨P, Q, hm⟩ := bnd hm
   refine qz [] rfl (eC Xlr rfl (Qsh Q aq ar au)) ⟨fun _ => tk0, trivial⟩ ?_
   rintro _ a3 ⟨rfl, y⟩
   refine kG y ?_
   have z := (((Kp.refl ([]) J).gr D).gr y)
   refine dn 0 rfl rfl z<|dn 0 rfl rfl z<|dn 0 rfl rfl z ?_
   have av := (O.gr y)
   refine qz [(1, N)] rfl (Qah Qai rfl rfl rfl av rfl rfl) ⟨fun _ => tk0, trivial⟩ ?_
   rintro _ a5 ⟨R, E⟩
   refine kM E ?_
   have aw := (z.md E)
   refine dn 0 rfl rfl aw<|Qa9 ?_
   exact ⟨rfl, ⟨P.1, P.2, N⟩, sbq, hm, R, (by omega), (((kz0.gr Y5).gr y).md E)⟩
 clear hm; rintro ⟨a6, a7, bq5⟩ w7 ⟨hm, F, ax, K7⟩
 unfold Qmt at hm
 refine Qa3<|qs 2 rfl<|qm rfl<|qv rfl (Qby (a := a7) (b := 0) rfl rfl)<|Qa1<|Qal rfl (fun c3 => ?_) (fun c3 => ?_)
 · replace hm := iT c3 hm
   refine qs 2 rfl<|qm rfl<|qm rfl<|Qa1<|Qaf<|Qb2 ?_
   have ay := (((hbp2.gr Y3).kz K6).kz K7)
   have az := (A.kz K7)
   cases hm
   refine ⟨_, _, rfl, Qay rfl (Qac rfl), ?_⟩
   exact ⟨rfl, ay, az⟩
 replace hm := iF c3 hm
 refine qu<|Qa3<|Qa3<|dw [([])] [] (.leaf [(0,10),(1,10),(3,10),(4,10),(2,0),(5,10)]) ?_
 intro w8 G8 a8
 refine Qam ?_
 have S := (F.gr G8)
 refine dh 0 rfl rfl (fun w hS => Qa6 Qai rfl (Bx.kp S hS) rfl) ?_
 have G := ((((k.gr G5).kz K6).kz K7).gr G8)
 refine dh 0 rfl rfl (fun w hS => Qa6 Qbu rfl (Bx.kp G hS) rfl)<|dh 0 rfl rfl (fun w hS => Qa0 Qos rfl)<|dh 0 rfl rfl (fun w hS => Qb9 (vs := kb p3.Mac) Qai rfl (Bx.kp G hS) rfl rfl) ?_
 have aA := ((((f.gr Y3).kz K6).kz K7).gr G8)
 have aB := ((((g.gr Y3).kz K6).kz K7).gr G8)
 have aC := ((((p.gr Y3).kz K6).kz K7).gr G8)
 obtain ⟨x8, aD, hm⟩ := bnd hm
 refine qz [] rfl (eC Xl4 rfl (Qp3 aD aA aB aC)) ⟨fun _ => tk0, trivial⟩ ?_
 rintro _ w9 ⟨rfl, G9⟩
 refine kG G9 ?_
 have aE := ((Kp.refl ([]) w8).gr G9)
 refine qh 0 rfl rfl aE (fun w hS => Qlu (cf := kb) (a := x8) (b := p3.Mac) Qpd rfl rfl rfl rfl (fun h => Qlj h))<|Qa1<|Qal rfl (fun c4 => ?_) (fun c4 => ?_)
 · replace hm := iT c4 hm
   refine qs 1 rfl<|qm rfl<|qb ?_
   have Y6 := Gr.trans G8 G9
   have aF := ((((hbp2.gr Y3).kz K6).kz K7).gr Y6)
   have aG := ((A.kz K7).gr Y6)
   cases hm
   refine ⟨_, _, rfl, Qay rfl (Qac rfl), ?_⟩
   exact ⟨rfl, aF, aG⟩
 replace hm := iF c4 hm
 refine qu<|qs 7 rfl<|qm rfl<|qv rfl (Qa0 Qlh rfl) ?_
 have aH := (G.gr G9)
 refine qv rfl (Qa2 (v := .int .i64 p3.Epoch) Qb3 rfl aH rfl) ?_
 have aI := (S.gr G9)
 refine qv rfl (Qa6 Qai rfl aI rfl)<|qv rfl (Qau (cs := Qbr.cs (Qbr.mk true p3.Epoch a6)) Xij rfl (Qi4 rfl rfl rfl (Qi4 rfl rfl rfl (Qi4 rfl rfl rfl (by kernel_rfl)))))<|qv rfl (Qcc rfl rfl) ?_
 have Y7 := Gr.trans G8 G9
 have aJ := ((((hbp2.gr Y3).kz K6).kz K7).gr Y7)
 refine qe rfl (Xhb (sz := 18) (o := 5) (q := 0) (l := [p2.Slots.a0, p2.Slots.a1]) (c := Qbr.cs) (a' := (Qbr.mk true p3.Epoch a6)) (vs := Qbr.cs (Qbr.mk true p3.Epoch a6)) (cs' := Qae.cs (Qae.mk p2.Secret p2.Ahead (Qbi.mk (if x1 = 0 then (Qbr.mk true p3.Epoch a6) else p2.Slots.a0) (if x1 = 0 then p2.Slots.a1 else (Qbr.mk true p3.Epoch a6)))) vp2_1) (Qo5).siz rfl rfl rfl rfl rfl aJ (Qil _ (fun _ => rfl) (fun _ => rfl)) rfl rfl n (by first | rfl | omega) rfl rfl (Xol n) rfl) ?_
 rintro _ a9 ⟨T, aK⟩
 refine qd 1 rfl<|qm rfl<|Qa1<|Qaf ?_
 have aL := (((A.kz K7).gr Y7).md aK)
 cases hm
 refine ⟨_, _, rfl, Qay rfl (Qac rfl), ?_⟩
 exact ⟨rfl, T, aL⟩
theorem Qx2 {p0 p1 p2 p3 vp1_1 zp1_1 gp1_1 op1_1 vp2_2 zp2_2 gp2_2 op2_2 vp2_4 zp2_4 gp2_4 op2_4 vp2_39 zp2_39 gp2_39 op2_39 r} (hm : Qry p0 p1 p2 p3 = some r) {w : World} (aL : Rd w zp1_1 gp1_1 op1_1 18 vp1_1 (p1.Secret.Labels.map Qbv.cs)) (j : Rd w zp2_2 gp2_2 op2_2 18 vp2_2 (p2.Head.Items.map Qbd.cs)) (k : Rd w zp2_4 gp2_4 op2_4 2 vp2_4 (p2.Head.Points.map Qag.cs)) (c : Rd w zp2_39 gp2_39 op2_39 1 vp2_39 (p2.Data.map bvc)) :
    Calls Tryz.prog 85 [.agg (Qf7.cs p0).toArray, .agg (Qae.cs p1 vp1_1).toArray, .agg (Qa4.cs p2 vp2_2 vp2_4 vp2_39).toArray, .int .i64 p3].toArray w fun e w' => ∃ v, e = .returned v ∧ (∃ ur0_s zr0_s gr0_s, v = .tuple [ur0_s, .int .i64 r.2].toArray ∧ Own w' zr0_s gr0_s 5 1 ur0_s (r.1.map bvc) ∧ Hdn (zr0_s = 0 ∨ w.heap.size ≤ gr0_s) ∧ Gr w w') := by
 have E := j.lth
 have F := k.lth
 have p := c.lth
 unfold Qry at hm
 refine Qa5 74 Tryz.func85 rfl rfl rfl<|qs 5 rfl<|qe rfl (Qat (cs := Qf7.cs p0) rfl rfl) ?_
 rintro _ w1 ⟨b1, rfl, bn, ah, G1⟩
 have bA := ah.lt
 refine qe rfl (Qat (cs := Qae.cs p1 vp1_1) rfl rfl) ?_
 rintro _ w2 ⟨b2, rfl, bo, ai, G2⟩
 have bB := ai.lt
 refine qe rfl (Qat (cs := Qa4.cs p2 vp2_2 vp2_4 vp2_39) rfl rfl) ?_
 rintro _ w3 ⟨b3, rfl, bp, G, G3⟩
 have bq := G.lt
 refine qm rfl<|qm rfl<|qd 10 rfl ?_
 have Y1 := Gr.trans G2 G3
 have aj := (ah.gr Y1)
 refine qv rfl (Qa6 Qh2 rfl aj rfl)<|qm rfl<|qv rfl (Qa0 Qqq rfl)<|qv rfl (Qa2 (v := bv p2.Low) Qcd rfl G rfl) ?_
 obtain ⟨x1, aM, hm⟩ := bnd hm
 refine qe rfl (eC Xk3 rfl (Qq4 aM)) ?_
 rintro _ w4 ⟨rfl, G4⟩
 have bC := G4.size
 refine qm rfl<|qm rfl<|qm rfl<|qm rfl<|qm rfl<|Qa1<|Qa3 ?_
 refine qs 2 rfl<|qm rfl<|qv rfl (Qci rfl)<|Qa1<|Qal rfl (fun c1 => ?_) (fun c1 => ?_)
 · replace hm := Qc0 c1 hm
   refine qs 2 rfl<|qm rfl<|qm rfl<|Qa1<|Qaf<|Qb2 ?_
   have Y2 := Gr.trans (Gr.trans G1 Y1) G4
   have aN := ((Gr.refl w).trans Y2)
   cases hm
   refine ⟨_, _, rfl, Qbm rfl (Qac rfl) (Qac rfl), ?_⟩
   exact ⟨(.slice none 0 0), 0, 0, rfl, (Qaw _ 0 5 1), ⟨.inl rfl⟩, aN⟩
 replace hm := Qc1 c1 hm
 refine qu<|qs 8 rfl<|qm rfl<|qv rfl (Qa0 Qih rfl) ?_
 have ak := (aj.gr G4)
 refine qv rfl (Qa2 (v := .int .i64 p0.Epoch) Qb3 rfl ak rfl)<|qv rfl (Qa0 Qi1 rfl)<|qv rfl (Qa2 (v := .int .i64 p0.Word) Qb3 rfl ak rfl) ?_
 obtain ⟨x2, aO, hm⟩ := bnd hm
 refine qv rfl (Qmr (a := p0.Epoch) (b := p0.Word) rfl rfl aO) ?_
 obtain ⟨x3, aP, hm⟩ := bnd hm
 refine qv rfl (Qmr (a := x1.1) (b := x2) rfl rfl aP)<|qm rfl<|qd 7 rfl<|qm rfl ?_
 obtain ⟨x4, aQ, hm⟩ := bnd hm
 refine qv rfl (Qj5 (a := x3) (b := 2) rfl rfl aQ)<|qv rfl (Qa0 Qxx rfl) ?_
 obtain ⟨y5, al, hm⟩ := bnd hm
 refine qv rfl (Xfr (l := [p1.Slots.a0, p1.Slots.a1]) (i := x4) Tryz.underlying76 (Qo5).siz rfl rfl al rfl) ?_
 have Y3 := Gr.trans G3 G4
 have aR := (ai.gr Y3)
 refine qv rfl (Qgy Qo5 rfl (Qyx (o := 5) (sz := 18) (xs := [p1.Slots.a0, p1.Slots.a1].map Qbr.cs) (m := 2) (cap := 2) aR (Qil _ (fun _ => rfl) (fun _ => rfl)) rfl rfl) al (by first | rfl | omega))<|qe rfl (Qaa (cs := Qbr.cs (Qbr.mk false 0 k0)) Xin rfl) ?_
 rintro _ w5 ⟨b5, rfl, br, am, G5⟩
 have bs := am.lt
 refine qe rfl (Qah Qo5 rfl rfl rfl am rfl rfl) ?_
 rintro _ w6 ⟨Q, M6⟩
 have bD := M6.size
 refine Qa1<|Qa3 ?_
 have Y4 := Gr.trans (Gr.trans (Gr.trans G1 Y1) G4) G5
 have an := (((Gr.refl w).trans Y4).md M6)
 refine qj (β := Bool) (rg 39 9) (fun a6 => [(47, .bool a6)]) (fun a6 wr => (Qkx p2 x1 y5 a6 = some r) ∧ Kz [] w6 wr) ?_ ?_
 · refine qg 9 rfl<|qv rfl (Qa0 Qtc rfl)<|qv rfl (Qa2 (v := .bool y5.Full) Qrn rfl Q rfl)<|qv rfl (Qci rfl)<|qp rfl (Qad rfl) (fun c5 => ?_) (fun c5 => ?_)
   · replace hm := Qc0 c5 hm
     refine qk rfl<|qk rfl<|qk rfl<|qk rfl<|qm rfl<|Qa9 ?_
     exact ⟨rfl, true, sbq, hm, kz0⟩
   replace hm := Qc1 c5 hm
   refine qv rfl (Qa0 Qv9 rfl)<|qv rfl (Qa2 (v := .int .i64 y5.Epoch) Qb3 rfl Q rfl)<|qm rfl<|qv rfl (Qby (a := y5.Epoch) (b := x3) rfl rfl)<|qm rfl<|Qa9 ?_
   exact ⟨rfl, (decide (y5.Epoch ≠ x3)), sbq, hm, kz0⟩
 clear hm; rintro a6 w7 ⟨hm, K7⟩
 have bE := K7.size
 unfold Qkx at hm
 refine Qal rfl (fun c2 => ?_) (fun c2 => ?_)
 · replace hm := Qc0 c2 hm
   refine qs 2 rfl<|qm rfl<|qm rfl<|Qa1<|Qaf<|Qb2 ?_
   have aS := (an.kz K7)
   cases hm
   refine ⟨_, _, rfl, Qbm rfl (Qac rfl) (Qac rfl), ?_⟩
   exact ⟨(.slice none 0 0), 0, 0, rfl, (Qaw _ 0 5 1), ⟨.inl rfl⟩, aS⟩
 replace hm := Qc1 c2 hm
 refine qu<|qs 6 rfl<|qv rfl (Qa0 Xhk rfl) ?_
 have aT := (Q.kz K7)
 refine qv rfl (Qb9 (vs := kb y5.Key) Qai rfl aT rfl rfl)<|qm rfl ?_
 obtain ⟨x7, aU, hm⟩ := bnd hm
 refine qe rfl (eC Xek rfl (Qm4 aU)) ?_
 rintro _ w8 ⟨rfl, G8⟩
 have bF := G8.size
 refine qe rfl (Qaa (cs := kb k0) Qef rfl) ?_
 rintro _ w9 ⟨b9, rfl, bu, ao, G9⟩
 have bw := ao.lt
 refine qe rfl (Qah Qai rfl rfl rfl ao rfl rfl) ?_
 rintro _ ap ⟨P, d⟩
 have bG := d.size
 refine Qa1 ?_
 have Y5 := Gr.trans G8 G9
 have R := (((an.kz K7).trans Y5).md d)
 refine qj (β := W2 × Int × Nat) ([15, 16] ++ rg 52 7) (fun ⟨a9, D, bq8⟩ => [(15, .pointer (some ⟨bq8, 0, none⟩)), (16, .int .i64 D)]) (fun ⟨a9, D, bq8⟩ wr => (Qo4 p2 x7 a9 D = some r) ∧ Bx wr bq8 23 (kb a9) ∧ ap.heap.size ≤ bq8 ∧ Kz [] ap wr) ?_ ?_
 · refine dw [([])] [] (.fork [(0,10),(1,10)] (.fork [(2,0)] (.leaf [(3,0),(4,10),(5,10),(6,10),(7,0),(8,0),(9,10)]) (.leaf [(7,0),(3,0),(4,10),(5,10),(6,10),(8,0),(9,10)])) (.leaf [(7,0),(2,0),(3,0),(4,10),(5,10),(6,10),(8,0),(9,10)])) ?_
   intro S g bx
   refine Qbf ?_
   have aV := (P.gr g)
   refine dh 0 rfl rfl (fun w hS => Qa6 Qai rfl (Bx.kp aV hS) rfl) ?_
   have Y6 := Gr.trans G4 G5
   have aW := ((((((G.gr Y6).md M6).kz K7).gr Y5).md d).gr g)
   refine dh 0 rfl rfl (fun w hS => Qa6 Qbu rfl (Bx.kp aW hS) rfl)<|Qbx ?_ ?_
   · refine Qbf ?_
     have aX := ((((((j.gr Y4).md M6 (Qan E)).kz K7).gr Y5).md d (Qan E)).gr g)
     have aY := ((((((k.gr Y4).md M6 (Qan F)).kz K7).gr Y5).md d (Qan F)).gr g)
     have aZ := ((((((c.gr Y4).md M6 (Qan p)).kz K7).gr Y5).md d (Qan p)).gr g)
     obtain ⟨bH, aq, hm⟩ := bnd hm
     refine qz [] rfl (eC Qyb rfl (Qhe aq aX aY aZ)) ⟨fun _ => tk0, trivial⟩ ?_
     rintro Z bI ⟨_, aa, ab, rfl, f, ac, q⟩
     have bJ := q.size
     refine kG q<|Qbx ?_ ?_
     · refine Qam ?_
       obtain ⟨ar, au, hm⟩ := bnd hm
       refine qz [] rfl (eC Qw1 rfl (Qg6 au (Own.rd f))) ⟨fun _ => tk0, trivial⟩ ?_
       rintro _ bK ⟨rfl, H⟩
       have bL := H.size
       refine kG H ?_
       have I := (((Kp.refl ([]) S).gr q).gr H)
       refine dn 0 rfl rfl I<|dn 0 rfl rfl I<|dn 0 rfl rfl I<|qz [] rfl (Qaa (cs := kb k0) Qef rfl) ⟨fun _ => tk0, trivial⟩ ?_
       rintro _ bM ⟨av, rfl, a2, aw, T⟩
       refine kG T<|qz [(1, av)] rfl (Qah Qai rfl rfl rfl aw rfl rfl) ⟨fun _ => tk0, trivial⟩ ?_
       rintro _ bN ⟨ax, U⟩
       refine kM U ?_
       have a3 := ((I.gr T).md U)
       refine dn 0 rfl rfl a3<|Qa9 ?_
       exact ⟨rfl, ⟨ar.1, ar.2, av⟩, sbq, hm, ax, (by omega), (((((kz0.gr g).gr q).gr H).gr T).md U)⟩
     refine Qam<|qz [] rfl (Qaa (cs := kb k0) Qef rfl) ⟨fun _ => tk0, trivial⟩ ?_
     rintro _ bO ⟨ay, rfl, a4, az, J⟩
     refine kG J ?_
     have a5 := (f.gr J)
     obtain ⟨aA, aB, hm⟩ := bnd hm
     refine qz [] rfl (eC Qw1 rfl (Qg6 aB (Own.rd a5))) ⟨fun _ => tk0, trivial⟩ ?_
     rintro _ bP ⟨rfl, K⟩
     refine kG K ?_
     have L := ((((Kp.refl ([]) S).gr q).gr J).gr K)
     refine dn 0 rfl rfl L<|dn 0 rfl rfl L<|dn 0 rfl rfl L ?_
     have a7 := (az.gr K)
     refine qz [(1, ay)] rfl (Qah Qai rfl rfl rfl a7 rfl rfl) ⟨fun _ => tk0, trivial⟩ ?_
     rintro _ bQ ⟨aC, V⟩
     refine kM V ?_
     have a8 := (L.md V)
     refine dn 0 rfl rfl a8<|Qa9 ?_
     exact ⟨rfl, ⟨aA.1, aA.2, ay⟩, sbq, hm, aC, (by omega), (((((kz0.gr g).gr q).gr J).gr K).md V)⟩
   refine Qam<|qz [] rfl (Qaa (cs := kb k0) Qef rfl) ⟨fun _ => tk0, trivial⟩ ?_
   rintro _ bR ⟨aD, rfl, ba, aE, W⟩
   refine kG W ?_
   have Y7 := Gr.trans g W
   have bb := ((((((j.gr Y4).md M6 (Qan E)).kz K7).gr Y5).md d (Qan E)).gr Y7)
   have bc := ((((((k.gr Y4).md M6 (Qan F)).kz K7).gr Y5).md d (Qan F)).gr Y7)
   have bd := ((((((c.gr Y4).md M6 (Qan p)).kz K7).gr Y5).md d (Qan p)).gr Y7)
   obtain ⟨bS, aF, hm⟩ := bnd hm
   refine qz [] rfl (eC Qyb rfl (Qhe aF bb bc bd)) ⟨fun _ => tk0, trivial⟩ ?_
   rintro ad bT ⟨_, ae, af, rfl, s, ag, M⟩
   refine kG M ?_
   obtain ⟨aG, aH, hm⟩ := bnd hm
   refine qz [] rfl (eC Qw1 rfl (Qg6 aH (Own.rd s))) ⟨fun _ => tk0, trivial⟩ ?_
   rintro _ bU ⟨rfl, N⟩
   refine kG N ?_
   have O := ((((Kp.refl ([]) S).gr W).gr M).gr N)
   refine dn 0 rfl rfl O<|dn 0 rfl rfl O<|dn 0 rfl rfl O ?_
   have bf := ((aE.gr M).gr N)
   refine qz [(1, aD)] rfl (Qah Qai rfl rfl rfl bf rfl rfl) ⟨fun _ => tk0, trivial⟩ ?_
   rintro _ bV ⟨aI, X⟩
   refine kM X ?_
   have bg := (O.md X)
   refine dn 0 rfl rfl bg<|Qa9 ?_
   exact ⟨rfl, ⟨aG.1, aG.2, aD⟩, sbq, hm, aI, (by omega), ((((kz0.gr Y7).gr M).gr N).md X)⟩
 clear hm; rintro ⟨a9, D, bq8⟩ bW ⟨hm, n, aK, t⟩
 have bz := n.lt
 unfold Qo4 at hm
 refine Qa3<|qs 2 rfl<|qm rfl<|qv rfl (Qby (a := D) (b := 0) rfl rfl)<|Qa1<|Qal rfl (fun c3 => ?_) (fun c3 => ?_)
 · replace hm := iT c3 hm
   refine qs 3 rfl<|qm rfl<|qm rfl<|qm rfl<|Qa1<|Qaf ?_
   refine Qb2 ?_
   have bh := (R.kz t)
   cases hm
   refine ⟨_, _, rfl, Qbm rfl (Qac rfl) (Qac rfl), ?_⟩
   exact ⟨(.slice none 0 0), 0, 0, rfl, (Qaw _ 0 5 1), ⟨.inl rfl⟩, bh⟩
 replace hm := iF c3 hm
 refine qu<|Qa3<|qs 4 rfl<|qv rfl (Qa6 Qai rfl n rfl)<|qv rfl (Qa0 Qos rfl) ?_
 have Y8 := Gr.trans G4 G5
 have Y := ((((((G.gr Y8).md M6).kz K7).gr Y5).md d).kz t)
 refine qv rfl (Qb9 (vs := kb p2.Mac) Qai rfl Y rfl rfl)<|qv rfl (Qlu (cf := kb) (a := a9) (b := p2.Mac) Qpd rfl rfl rfl rfl (fun h => Qlj h))<|Qa1<|Qal rfl (fun c4 => ?_) (fun c4 => ?_)
 · replace hm := iT c4 hm
   refine qs 2 rfl<|qm rfl<|qm rfl<|Qa1<|Qaf<|Qb2 ?_
   have bi := (R.kz t)
   cases hm
   refine ⟨_, _, rfl, Qbm rfl (Qac rfl) (Qac rfl), ?_⟩
   exact ⟨(.slice none 0 0), 0, 0, rfl, (Qaw _ 0 5 1), ⟨.inl rfl⟩, bi⟩
 replace hm := iF c4 hm
 refine qu<|qs 10 rfl ?_
 have bj := (P.kz t)
 refine qv rfl (Qa6 Qai rfl bj rfl)<|qv rfl (Qa0 Qrm rfl)<|qv rfl (Qa2 (v := wv p2.Number) Qb7 rfl Y rfl)<|qv rfl (Qa0 Qlv rfl)<|qv rfl (Qa2 (v := vp2_39) Qg2 rfl Y rfl) ?_
 have bk := ((((((c.gr Y4).md M6 (Qan p)).kz K7).gr Y5).md d (Qan p)).kz t)
 obtain ⟨bX, aJ, hm⟩ := bnd hm
 refine qe rfl (eC Xjt rfl (Qp2 aJ bk)) ?_
 rintro _ bY ⟨u, y, z, rfl, B, C, bl⟩
 refine qm rfl<|qm rfl<|qm rfl<|qm rfl<|Qa1<|Qaf ?_
 have bm := ((R.kz t).trans bl)
 cases hm
 refine ⟨_, _, rfl, Qbm rfl (Qac rfl) (Qac rfl), ?_⟩
 exact ⟨u, y, z, rfl, B, ⟨(Qbn (A := (fun x => w.heap.size ≤ x)) C)⟩, bm⟩
theorem Qel {p0 p1 p2 p3 p4 vp2_1 zp2_1 gp2_1 op2_1 vp3_2 zp3_2 gp3_2 op3_2 vp3_4 zp3_4 gp3_4 op3_4 vp3_39 zp3_39 gp3_39 op3_39 r} (hm : Qlg p0 p1 p2 p3 p4 = some r) {w : World} (N : Rd w zp2_1 gp2_1 op2_1 18 vp2_1 (p2.Secret.Labels.map Qbv.cs)) (m : Rd w zp3_2 gp3_2 op3_2 18 vp3_2 (p3.Head.Items.map Qbd.cs)) (n : Rd w zp3_4 gp3_4 op3_4 2 vp3_4 (p3.Head.Points.map Qag.cs)) (i : Rd w zp3_39 gp3_39 op3_39 1 vp3_39 (p3.Data.map bvc)) :
    Calls Tryz.prog 37 [.agg (Qaj.cs p0).toArray, .agg (Qf7.cs p1).toArray, .agg (Qae.cs p2 vp2_1).toArray, .agg (Qa4.cs p3 vp3_2 vp3_4 vp3_39).toArray, .int .i64 p4].toArray w fun e w' => ∃ v, e = .returned v ∧ (∃ ur0_1 zr0_1 gr0_1 ur1_s zr1_s gr1_s, v = .tuple [.agg (Qae.cs r.1 ur0_1).toArray, ur1_s, .int .i64 r.2.2].toArray ∧ Own w' zr0_1 gr0_1 92 18 ur0_1 (r.1.Secret.Labels.map Qbv.cs) ∧ Hdn (zr0_1 = 0 ∨ w.heap.size ≤ gr0_1) ∧ Own w' zr1_s gr1_s 5 1 ur1_s (r.2.1.map bvc) ∧ Hdn (zr1_s = 0 ∨ w.heap.size ≤ gr1_s) ∧ Hdn (zr1_s = 0 ∨ zr0_1 = 0 ∨ gr1_s ≠ gr0_1) ∧ Gr w w') := by
 have O := m.lth
 have P := n.lth
 have Q := i.lth
 unfold Qlg at hm
 refine Qa5 68 Tryz.func37 rfl rfl rfl<|qs 7 rfl<|qe rfl (Qat (cs := Qaj.cs p0) rfl rfl) ?_
 rintro _ w1 ⟨b1, rfl, a4, V, G1⟩
 have bh := V.lt
 refine qe rfl (Qat (cs := Qf7.cs p1) rfl rfl) ?_
 rintro _ w2 ⟨b2, rfl, a7, W, G2⟩
 have bi := W.lt
 refine qe rfl (Qat (cs := Qae.cs p2 vp2_1) rfl rfl) ?_
 rintro _ w3 ⟨b3, rfl, ba, X, G3⟩
 have bb := X.lt
 refine qe rfl (Qat (cs := Qa4.cs p3 vp3_2 vp3_4 vp3_39) rfl rfl) ?_
 rintro _ w4 ⟨b4, rfl, bc, R, G4⟩
 have bd := R.lt
 refine qe rfl (Qaa (cs := Qae.cs (Qae.mk (Qap.mk 0 [] (Qag.mk 0#64 0#64)) 0 (Qbi.mk (Qbr.mk false 0 k0) (Qbr.mk false 0 k0))) (.slice none 0 0)) Qo1 rfl) ?_
 rintro _ w5 ⟨b5, rfl, bf, F, G5⟩
 have bg := F.lt
 refine qm rfl<|qm rfl<|qd 5 rfl ?_
 have Y1 := Gr.trans (Gr.trans (Gr.trans G2 G3) G4) G5
 have Y := (V.gr Y1)
 refine qv rfl (Qa6 Qcq rfl Y rfl) ?_
 have Y2 := Gr.trans (Gr.trans G3 G4) G5
 have S := (W.gr Y2)
 refine qv rfl (Qa6 Qh2 rfl S rfl) ?_
 have Y3 := Gr.trans G4 G5
 have Z := (X.gr Y3)
 refine qv rfl (Qa6 Qdk rfl Z rfl) ?_
 have Y4 := Gr.trans G1 Y1
 have aa := (N.gr Y4)
 obtain ⟨x1, ap, hm⟩ := bnd hm
 refine qe rfl (eC Xn1 rfl (Qvb ap aa)) ?_
 rintro _ w6 ⟨rfl, G6⟩
 have bj := G6.size
 refine qm rfl<|Qa1 ?_
 have Y5 := Gr.trans Y4 G6
 have aq := ((Gr.refl w).trans Y5)
 refine qj (β := Int) [13, 19, 20, 21, 22] (fun a2 => [(13, .int .i64 a2)]) (fun a2 wr => (Ql0 p0 p1 p2 p3 p4 a2 = some r) ∧ Kz [] w6 wr) ?_ ?_
 · refine qs 2 rfl<|qm rfl<|qv rfl (Qdj (a := x1) (b := 0) rfl rfl)<|Qa1<|cnF rfl (fun c6 => ?_) (fun c6 => ?_)
   · replace hm := iF c6 hm
     refine Qc5 ?_
     exact ⟨rfl, x1, sbq, hm, kz0⟩
   replace hm := iT c6 hm
   refine qg 3 rfl ?_
   have Y6 := Gr.trans G5 G6
   have ar := (R.gr Y6)
   refine qv rfl (Qa6 Qbu rfl ar rfl) ?_
   have au := (m.gr Y5)
   have av := (n.gr Y5)
   have aw := (i.gr Y5)
   obtain ⟨ax, ab, hm⟩ := bnd hm
   refine qe rfl (eC Xf8 rfl (Qgg ab au av aw)) ?_
   rintro _ bk ⟨rfl, ay⟩
   refine qm rfl<|Qa9 ?_
   exact ⟨rfl, ax, sbq, hm, (kz0.gr ay)⟩
 clear hm; rintro a2 w7 ⟨hm, K7⟩
 have bl := K7.size
 unfold Ql0 at hm
 have ac := (aq.kz K7)
 refine qj (β := Int) ([13] ++ rg 23 7) (fun a3 => [(13, .int .i64 a3)]) (fun a3 wr => (Ql5 p0 p1 p2 p3 p4 a3 = some r) ∧ Kz [] w7 wr) ?_ ?_
 · refine qj (β := Bool) (rg 23 7) (fun G => [(29, .bool G)]) (fun G wr => (Qkv p0 p1 p2 p3 p4 a2 G = some r) ∧ Kz [] w7 wr) ?_ ?_
   · refine qg 7 rfl<|qm rfl<|qv rfl (Qdj (a := a2) (b := 0) rfl rfl)<|qpF rfl (Qad rfl) (fun c5 => ?_) (fun c5 => ?_)
     · replace hm := iF c5 hm
       refine qk rfl<|qk rfl<|qk rfl<|qm rfl<|Qa9 ?_
       exact ⟨rfl, false, sbq, hm, kz0⟩
     replace hm := iT c5 hm
     refine qm rfl ?_
     obtain ⟨az, ad, hm⟩ := bnd hm
     refine qe rfl (eC Qxb rfl (Qen ad)) ?_
     rintro _ bm ⟨rfl, aA⟩
     refine qv rfl (Qci rfl)<|qm rfl<|Qa9 ?_
     exact ⟨rfl, (!az), sbq, hm, (kz0.gr aA)⟩
   clear hm; rintro G bn ⟨hm, ae⟩
   unfold Qkv at hm
   refine cnF rfl (fun c4 => ?_) (fun c4 => ?_)
   · replace hm := Qc1 c4 hm
     refine Qc5 ?_
     exact ⟨rfl, a2, sbq, hm, (kz0.kz ae)⟩
   replace hm := Qc0 c4 hm
   refine qg 1 rfl<|qm rfl<|Qa9 ?_
   exact ⟨rfl, 2, sbq, hm, (kz0.kz ae)⟩
 clear hm; rintro a3 w8 ⟨hm, K8⟩
 have bo := K8.size
 unfold Ql5 at hm
 refine Qa3<|qs 2 rfl<|qm rfl<|qv rfl (Qby (a := a3) (b := 0) rfl rfl)<|Qa1<|Qal rfl (fun c1 => ?_) (fun c1 => ?_)
 · replace hm := iT c1 hm
   refine qs 5 rfl<|qv rfl (Qau (cs := Qae.cs (Qae.mk (Qap.mk 0 [] (Qag.mk 0#64 0#64)) 0 (Qbi.mk (Qbr.mk false 0 k0) (Qbr.mk false 0 k0))) (.slice none 0 0)) Xac rfl (by kernel_rfl))<|qm rfl ?_
   have aB := (((F.gr G6).kz K7).kz K8)
   refine qe rfl (Qah Qdk rfl rfl (Qae.cs_ones _ _ rfl) aB rfl rfl) ?_
   rintro _ w9 ⟨aC, M9⟩
   refine qm rfl<|qm rfl<|qb ?_
   have aD := ((ac.kz K8).md M9)
   cases hm
   refine ⟨_, _, rfl, Xhr rfl (Qaq Qdk rfl aC rfl) (Qac rfl) (Qac rfl), ?_⟩
   exact ⟨(.slice none 0 0), 0, 0, (.slice none 0 0), 0, 0, rfl, (Qaw _ 0 92 18), ⟨.inl rfl⟩, (Qaw _ 0 5 1), ⟨.inl rfl⟩, ⟨(.inl rfl)⟩, aD⟩
 replace hm := iF c1 hm
 refine qu<|qs 7 rfl<|qv rfl (Qa0 Qtk rfl)<|qv rfl (Qa0 Qrs rfl) ?_
 have af := (((Z.gr G6).kz K7).kz K8)
 refine qv rfl (Qa2 (v := vp2_1) Qt4 rfl af rfl) ?_
 have aE := (((aa.gr G6).kz K7).kz K8)
 obtain ⟨x4, aF, hm⟩ := bnd hm
 refine qe rfl (eC Xmv rfl (Qqe aF aE)) ?_
 rintro h bp ⟨_, j, l, rfl, d, c, g⟩
 have bq := g.size
 have ag := d.lth
 refine qv rfl (Qa0 Qtk rfl)<|qv rfl (Qa0 Qrs rfl) ?_
 have aG := (af.gr g)
 refine qe rfl (Qct (cs' := Qae.cs (Qae.mk (Qap.mk p2.Secret.Receiver x4 p2.Secret.Share) p2.Ahead p2.Slots) h) (Qt4).siz rfl rfl (Own.oneB d) aG rfl rfl) ?_
 rintro _ H ⟨t, f⟩
 have br := f.size
 refine qd 1 rfl<|qm rfl<|Qa1 ?_
 have ah := (((ac.kz K8).trans g).md f)
 refine qj (β := Int × List (BitVec 8) × Int × Qag × Int × Qbi × Value × Nat × Nat) ([13, 14] ++ rg 40 22) (fun ⟨a5, a6, a8, a9, I, J, vy7, zy7, gy7⟩ => [(13, .int .i64 a5), (14, vy7)]) (fun ⟨a5, a6, a8, a9, I, J, vy7, zy7, gy7⟩ wr => (Ql9 x4 a5 a6 a8 a9 I J = some r) ∧ Own wr zy7 gy7 5 1 vy7 (a6.map bvc) ∧ Hdn (zy7 = 0 ∨ H.heap.size ≤ gy7) ∧ Bx wr b3 78 (Qae.cs (Qae.mk (Qap.mk a8 x4 a9) I J) h) ∧ Kz [(1, b3)] H wr) ?_ ?_
 · refine qs 3 rfl<|qv rfl (Qa0 Qom rfl) ?_
   have Y7 := Gr.trans G5 G6
   have T := (((((R.gr Y7).kz K7).kz K8).gr g).md f)
   refine qv rfl (Qa2 (v := bv p3.Kind) Qcd rfl T rfl)<|qv rfl (Qga (p := p3.Kind) (q := 1#8) rfl rfl)<|Qa1<|Qal rfl (fun c3 => ?_) (fun c3 => ?_)
   · replace hm := iT c3 hm
     refine qg 9 rfl ?_
     have aH := (((((Y.gr G6).kz K7).kz K8).gr g).md f)
     refine qv rfl (Qa6 Qcq rfl aH rfl) ?_
     have aI := (((((S.gr G6).kz K7).kz K8).gr g).md f)
     refine qv rfl (Qa6 Qh2 rfl aI rfl)<|qv rfl (Qa6 Qbu rfl T rfl)<|qm rfl<|qv rfl (Qa0 Qv8 rfl)<|qv rfl (Qa2 (v := .int .i64 p2.Ahead) Qb3 rfl t rfl)<|qv rfl (Qc6 (k := .i64) (a := p4) (b := p2.Ahead) rfl rfl) ?_
     have aJ := (d.md f (Qca c))
     have aK := (((((m.gr Y5).kz K7).kz K8).gr g).md f (Qan O))
     have aL := (((((n.gr Y5).kz K7).kz K8).gr g).md f (Qan P))
     have aM := (((((i.gr Y5).kz K7).kz K8).gr g).md f (Qan Q))
     obtain ⟨D, ai, hm⟩ := bnd hm
     refine qe rfl (eC Xmw rfl (Qvu ai t (Own.rd aJ) aK aL aM ⟨(tk1 (Qca (b := b3) c))⟩ ⟨(tk1 (Qan (b := b3) O))⟩ ⟨(tk1 (Qan (b := b3) P))⟩ ⟨(tk1 (Qan (b := b3) Q))⟩)) ?_
     rintro _ bs ⟨rfl, K, aN⟩
     refine qm rfl<|Qa9 ?_
     exact ⟨rfl, ⟨D.1, [], D.2.Secret.Receiver, D.2.Secret.Share, D.2.Ahead, D.2.Slots, (.slice none 0 0), 0, 0⟩, sbq, hm, (Qaw _ 0 5 1), ⟨(.inl rfl)⟩, K, (Kz.kz (Kz.refl _ _) aN)⟩
   replace hm := iF c3 hm
   refine qg 13 rfl ?_
   have aO := (((((S.gr G6).kz K7).kz K8).gr g).md f)
   refine qv rfl (Qa6 Qh2 rfl aO rfl)<|qv rfl (Qa6 Qdk rfl t rfl)<|qv rfl (Qa6 Qbu rfl T rfl)<|qm rfl<|qv rfl (Qa0 Qv8 rfl)<|qv rfl (Qa2 (v := .int .i64 p2.Ahead) Qb3 rfl t rfl)<|qv rfl (Qc6 (k := .i64) (a := p4) (b := p2.Ahead) rfl rfl) ?_
   have aP := (d.md f (Qca c))
   have aQ := (((((m.gr Y5).kz K7).kz K8).gr g).md f (Qan O))
   have aR := (((((n.gr Y5).kz K7).kz K8).gr g).md f (Qan P))
   have aS := (((((i.gr Y5).kz K7).kz K8).gr g).md f (Qan Q))
   obtain ⟨aj, ak, hm⟩ := bnd hm
   refine qe rfl (eC Xnw rfl (Qx2 ak (Own.rd aP) aQ aR aS)) ?_
   rintro _ aT ⟨u, y, z, rfl, B, C, al⟩
   refine qm rfl<|qm rfl<|qm rfl<|qm rfl<|qm rfl<|Qa9 ?_
   have K_62 : Kz [(1, b3)] H aT := (Kz.gr (Kz.refl _ _) al)
   have aU := (t.gr al)
   exact ⟨rfl, ⟨aj.2, aj.1, p2.Secret.Receiver, p2.Secret.Share, p2.Ahead, p2.Slots, u, y, z⟩, sbq, hm, B, ⟨(Qbn (A := (fun x => H.heap.size ≤ x)) C)⟩, aU, K_62⟩
 clear hm; rintro ⟨a5, a6, a8, a9, I, J, vy7, zy7, gy7⟩ bu ⟨hm, L, s, M, E⟩
 unfold Ql9 at hm
 refine Qa3<|qs 2 rfl<|qm rfl<|qv rfl (Qby (a := a5) (b := 0) rfl rfl)<|Qa1<|Qal rfl (fun c2 => ?_) (fun c2 => ?_)
 · replace hm := iT c2 hm
   refine qs 5 rfl<|qv rfl (Qau (cs := Qae.cs (Qae.mk (Qap.mk 0 [] (Qag.mk 0#64 0#64)) 0 (Qbi.mk (Qbr.mk false 0 k0) (Qbr.mk false 0 k0))) (.slice none 0 0)) Xac rfl (by kernel_rfl))<|qm rfl ?_
   have aV := ((((((F.gr G6).kz K7).kz K8).gr g).md f).kz E)
   refine qe rfl (Qah Qdk rfl rfl (Qae.cs_ones _ _ rfl) aV rfl rfl) ?_
   rintro _ bw ⟨am, aW⟩
   refine qm rfl<|qm rfl<|qb ?_
   have aX := ((ah.kz E).md aW)
   cases hm
   refine ⟨_, _, rfl, Xhr rfl (Qaq Qdk rfl am rfl) (Qac rfl) (Qac rfl), ?_⟩
   exact ⟨(.slice none 0 0), 0, 0, (.slice none 0 0), 0, 0, rfl, (Qaw _ 0 92 18), ⟨.inl rfl⟩, (Qaw _ 0 5 1), ⟨.inl rfl⟩, ⟨(.inl rfl)⟩, aX⟩
 replace hm := iF c2 hm
 refine qu<|qs 5 rfl<|qv rfl (Qa6 Qdk rfl M rfl)<|qm rfl ?_
 have aY := ((((((F.gr G6).kz K7).kz K8).gr g).md f).kz E)
 have an := ((d.md f (Qca c)).kz E (tk1 (Qca (b := b3) c)))
 refine qe rfl (Qah Qdk rfl rfl (Qae.cs_ones _ _ (Own.oneB an)) aY rfl rfl) ?_
 rintro _ bx ⟨ao, U⟩
 refine qm rfl<|qm rfl<|Qa1<|Qaf ?_
 have aZ := (an.md U (Qca c))
 have a0 := (L.md U (Qca s))
 have a1 := ((ah.kz E).md U)
 cases hm
 refine ⟨_, _, rfl, Xhr rfl (Qaq Qdk rfl ao rfl) (Qac rfl) (Qac rfl), ?_⟩
 exact ⟨h, j, l, vy7, zy7, gy7, rfl, aZ, ⟨(Qbn (A := (fun x => w.heap.size ≤ x)) c)⟩, a0, ⟨(Qbn (A := (fun x => w.heap.size ≤ x)) s)⟩, ⟨(Qbn (A := (fun x => j = 0 ∨ x ≠ l)) s (fun x hx => (tk1 ag.o)))⟩, a1⟩
end Go.Proofs.YtjdffpglgkefmaaGreat.Mx
