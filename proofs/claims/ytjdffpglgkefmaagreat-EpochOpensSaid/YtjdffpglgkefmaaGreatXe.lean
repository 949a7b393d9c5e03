/- Walks that follow mirrors: Xe. Printed by mx.py. -/
import Derived.Test.YtjdffpglgkefmaaGreatXd
import Derived.Test.YtjdffpglgkefmaaGreatZd
set_option linter.unusedVariables false
set_option linter.unusedSimpArgs false
set_option maxRecDepth 100000
set_option maxHeartbeats 2000000
namespace Go.Proofs.YtjdffpglgkefmaaGreat.Mx
open Go Go.RowKit Go.Sx
theorem Qz7 : FA Tryz.prog 78 1 4 := fun _ _ _ => by kernel_rfl
theorem Qvv : FA Tryz.prog 78 0 0 := fun _ _ _ => by kernel_rfl
theorem Xgl : FA Tryz.prog 33 0 0 := fun _ _ _ => by kernel_rfl
theorem Xbs : FA Tryz.prog 78 2 5 := fun _ _ _ => by kernel_rfl
theorem Qpk : Agg Tryz.prog 75 18 := fun _ => ⟨by kernel_rfl, by kernel_rfl⟩
theorem Xnq : ZV Tryz.prog 75 (.agg [.bool false, .int .i64 0, .int .u8 0, .int .u8 0, .int .u8 0, .int .u8 0, .int .u8 0, .int .u8 0, .int .u8 0, .int .u8 0, .int .u8 0, .int .u8 0, .int .u8 0, .int .u8 0, .int .u8 0, .int .u8 0, .int .u8 0, .int .u8 0].toArray) := fun _ => by kernel_rfl
theorem Qvj : FA Tryz.prog 75 0 0 := fun _ _ _ => by kernel_rfl
theorem Xbc : One Tryz.prog 4 := fun _ => ⟨by kernel_rfl, by kernel_rfl⟩
theorem Qyu : FA Tryz.prog 75 1 1 := fun _ _ _ => by kernel_rfl
theorem Xnz : BS Tryz.prog 75 (fun i => [(0, 1), (1, 1), (2, 16)][i]?) [.bool false, .int .i64 0, .int .u8 0, .int .u8 0, .int .u8 0, .int .u8 0, .int .u8 0, .int .u8 0, .int .u8 0, .int .u8 0, .int .u8 0, .int .u8 0, .int .u8 0, .int .u8 0, .int .u8 0, .int .u8 0, .int .u8 0, .int .u8 0] := Qr5 Tryz.underlying75 Xnq ⟨rfl, (Xbc).siz, rfl, (Qaw).siz, rfl, (Qak).siz, trivial⟩
theorem Xua : EqC Tryz.prog 1 4 [.b] := Xk4 Tryz.underlying4 Xbc
theorem Xpq : EqC Tryz.prog 3 75 [.b, .i .i64, .i .u8, .i .u8, .i .u8, .i .u8, .i .u8, .i .u8, .i .u8, .i .u8, .i .u8, .i .u8, .i .u8, .i .u8, .i .u8, .i .u8, .i .u8, .i .u8] := Qme Tryz.underlying75 (by kernel_rfl) Qpk (show EqF _ 2 _ _ _ from (Qgd (ks1 := [.b]) (ks2 := [.i .i64, .i .u8, .i .u8, .i .u8, .i .u8, .i .u8, .i .u8, .i .u8, .i .u8, .i .u8, .i .u8, .i .u8, .i .u8, .i .u8, .i .u8, .i .u8, .i .u8]) rfl (by simp) (Xua.up (by decide)) (Qgd (ks1 := [.i .i64]) (ks2 := [.i .u8, .i .u8, .i .u8, .i .u8, .i .u8, .i .u8, .i .u8, .i .u8, .i .u8, .i .u8, .i .u8, .i .u8, .i .u8, .i .u8, .i .u8, .i .u8]) rfl (by simp) (Xh9.up (by decide)) (Qgd (ks1 := [.i .u8, .i .u8, .i .u8, .i .u8, .i .u8, .i .u8, .i .u8, .i .u8, .i .u8, .i .u8, .i .u8, .i .u8, .i .u8, .i .u8, .i .u8, .i .u8]) (ks2 := []) rfl (by simp) (Xhr.up (by decide)) (Qti _)))))
theorem Xmn : EqT Tryz.prog 75 [.b, .i .i64, .i .u8, .i .u8, .i .u8, .i .u8, .i .u8, .i .u8, .i .u8, .i .u8, .i .u8, .i .u8, .i .u8, .i .u8, .i .u8, .i .u8, .i .u8, .i .u8] := ⟨by kernel_rfl, Qpk, 3, by decide, Xpq⟩
theorem Xti : En Tryz.prog 40 := fun _ _ => by kernel_rfl
theorem Xpv : En Tryz.prog 136 := fun _ _ => by kernel_rfl
theorem Xu9 : En Tryz.prog 60 := fun _ _ => by kernel_rfl
theorem Xkx : BSl Tryz.prog 29 0 92 18 [] := Xg9 Tryz.underlying29 (Quq).siz
theorem Xtm : En Tryz.prog 83 := fun _ _ => by kernel_rfl
theorem Xea : FA Tryz.prog 122 2 2 := fun _ _ _ => by kernel_rfl
theorem Xus : En Tryz.prog 53 := fun _ _ => by kernel_rfl
theorem Xuv : En Tryz.prog 50 := fun _ _ => by kernel_rfl
theorem Xn0 : En Tryz.prog 25 := fun _ _ => by kernel_rfl
theorem Xud : En Tryz.prog 84 := fun _ _ => by kernel_rfl
theorem Xmr : FA Tryz.prog 75 2 2 := fun _ _ _ => by kernel_rfl
theorem Xtj : En Tryz.prog 85 := fun _ _ => by kernel_rfl
theorem Qyl {p0 p1 p2 vp2_1 zp2_1 gp2_1 op2_1 r} (hm : Qrs p0 p1 p2 = some r) {w : World} (C : Rd w zp2_1 gp2_1 op2_1 18 vp2_1 (p2.Secret.Labels.map Qb8.cs)) :
    Calls Tryz.prog 40 [.agg (Qa7.cs p0).toArray, .agg (Qfr.cs p1).toArray, .agg (Qad.cs p2 vp2_1).toArray].toArray w fun e w' => ∃ v, e = .returned v ∧ (v = .int .i64 r ∧ Gr w w') := by
 unfold Qrs at hm
 refine Qa5 76 Tryz.func40 rfl rfl rfl<|qs 4 rfl<|qe rfl (Qaq (cs := Qa7.cs p0) rfl rfl) ?_
 rintro _ w1 ⟨b1, rfl, P, u, G1⟩
 have U := u.lt
 refine qe rfl (Qaq (cs := Qfr.cs p1) rfl rfl) ?_
 rintro _ w2 ⟨b2, rfl, Q, x, G2⟩
 have V := x.lt
 refine qe rfl (Qaq (cs := Qad.cs p2 vp2_1) rfl rfl) ?_
 rintro _ w3 ⟨b3, rfl, R, m, G3⟩
 have W := m.lt
 refine qm rfl<|Qa1<|Qa3<|qs 4 rfl ?_
 have Y1 := Gr.trans G2 G3
 have B8 := (u.gr Y1)
 refine qv rfl (Qa4 Qcn rfl B8 rfl) ?_
 have B9 := (x.gr G3)
 refine qv rfl (Qa4 Qht rfl B9 rfl) ?_
 obtain ⟨x1, D, hm⟩ := bnd hm
 refine qe rfl (eC Xsa rfl (Qun D)) ?_
 rintro _ w4 ⟨rfl, G4⟩
 have X := G4.size
 refine qm rfl<|qd 2 rfl<|qm rfl<|qv rfl (Qc2 (a := x1) (b := 0) rfl rfl)<|Qa1 ?_
 refine Qam rfl (fun c1 => ?_) (fun c1 => ?_)
 · replace hm := iT c1 hm
   refine qs 2 rfl<|qm rfl<|qm rfl<|Qa1<|Qag<|Qb2 ?_
   have Y2 := Gr.trans (Gr.trans G1 Y1) G4
   have E := ((Gr.refl w).trans Y2)
   cases hm
   refine ⟨_, _, rfl, Qb1 rfl (Qab rfl), ?_⟩
   exact ⟨rfl, E⟩
 replace hm := iF c1 hm
 refine qu<|Qa3 ?_
 have Y3 := Gr.trans (Gr.trans G1 Y1) G4
 have y := ((Gr.refl w).trans Y3)
 refine qj (β := Bool) (rg 16 28) (fun a2 => [(43, .bool a2)]) (fun a2 wr => (Qhr p2 a2 = some r) ∧ Kz [] w4 wr) ?_ ?_
 · refine dw [([])] [] (.leaf [(0,10),(1,10),(2,10),(3,10),(4,10),(5,10),(6,10),(7,10),(8,10),(9,10),(10,10),(11,10),(12,10),(13,10),(14,10),(15,10),(16,10),(17,10),(18,10),(19,10),(20,10),(21,10),(22,10),(23,10),(24,10),(25,10),(26,10),(27,10)]) ?_
   intro n d S
   refine Qal<|dh 0 rfl rfl (fun w hS => Qa0 Qz7 rfl) ?_
   have j := ((m.gr G4).gr d)
   refine dh 0 rfl rfl (fun w hS => Qa2 (v := .int .i64 p2.Ahead) Qaw rfl (Bx.kp j hS) rfl)<|dh 0 rfl rfl (fun w hS => Qa0 Qll rfl) ?_
   have z := ((B9.gr G4).gr d)
   refine dh 0 rfl rfl (fun w hS => Qa2 (v := .int .i64 p1.Drift) Qaw rfl (Bx.kp z hS) rfl)<|dh 0 rfl rfl (fun w hS => Xig (a := p1.Drift) rfl)<|dh 0 rfl rfl (fun w hS => Qcd (a := p2.Ahead) (b := w64 (-p1.Drift)) rfl rfl)<|qq 0 rfl rfl (Kp.refl ([]) n) (fun w hS => Qac rfl) (fun o => ?_) (fun o => ?_)
   · replace hm := iT o hm
     refine dx 0 rfl rfl<|dx 0 rfl rfl<|dx 0 rfl rfl<|dx 0 rfl rfl<|dx 0 rfl rfl<|dm 0 rfl rfl<|dm 0 rfl rfl ?_
     refine dx 0 rfl rfl<|dx 0 rfl rfl<|dx 0 rfl rfl<|dx 0 rfl rfl<|dm 0 rfl rfl<|dm 0 rfl rfl<|dx 0 rfl rfl ?_
     refine dx 0 rfl rfl<|dx 0 rfl rfl<|dx 0 rfl rfl<|dx 0 rfl rfl<|dx 0 rfl rfl<|dx 0 rfl rfl<|dm 0 rfl rfl ?_
     refine Qa9 ?_
     exact ⟨rfl, true, sbq, hm, (kz0.gr d)⟩
   replace hm := iF o hm
   refine dh 0 rfl rfl (fun w hS => Qa0 Qz7 rfl)<|dh 0 rfl rfl (fun w hS => Qa2 (v := .int .i64 p2.Ahead) Qaw rfl (Bx.kp j hS) rfl)<|dh 0 rfl rfl (fun w hS => Qa0 Qll rfl)<|dh 0 rfl rfl (fun w hS => Qa2 (v := .int .i64 p1.Drift) Qaw rfl (Bx.kp z hS) rfl)<|dh 0 rfl rfl (fun w hS => Qey (a := p2.Ahead) (b := p1.Drift) rfl rfl)<|dm 0 rfl rfl<|qq 0 rfl rfl (Kp.refl ([]) n) (fun w hS => Qac rfl) (fun p => ?_) (fun p => ?_)
   · replace hm := iT p hm
     refine dx 0 rfl rfl<|dx 0 rfl rfl<|dx 0 rfl rfl<|dx 0 rfl rfl<|dm 0 rfl rfl<|dm 0 rfl rfl<|dx 0 rfl rfl ?_
     refine dx 0 rfl rfl<|dx 0 rfl rfl<|dx 0 rfl rfl<|dx 0 rfl rfl<|dx 0 rfl rfl<|dx 0 rfl rfl<|dm 0 rfl rfl ?_
     refine Qa9 ?_
     exact ⟨rfl, true, sbq, hm, (kz0.gr d)⟩
   replace hm := iF p hm
   refine dh 0 rfl rfl (fun w hS => Qa0 Qvv rfl)<|dh 0 rfl rfl (fun w hS => Qa0 Xgl rfl)<|dh 0 rfl rfl (fun w hS => Qa2 (v := .int .i64 p2.Secret.Receiver) Qaw rfl (Bx.kp j hS) rfl)<|dh 0 rfl rfl (fun w hS => Qcd (a := p2.Secret.Receiver) (b := 0) rfl rfl)<|dm 0 rfl rfl<|qq 0 rfl rfl (Kp.refl ([]) n) (fun w hS => Qac rfl) (fun q => ?_) (fun q => ?_)
   · replace hm := iT q hm
     refine dx 0 rfl rfl<|dx 0 rfl rfl<|dx 0 rfl rfl<|dx 0 rfl rfl<|dx 0 rfl rfl<|dx 0 rfl rfl<|dx 0 rfl rfl ?_
     refine dm 0 rfl rfl<|Qa9 ?_
     exact ⟨rfl, true, sbq, hm, (kz0.gr d)⟩
   replace hm := iF q hm
   refine dh 0 rfl rfl (fun w hS => Qa0 Qvv rfl)<|dh 0 rfl rfl (fun w hS => Qa0 Xgl rfl)<|dh 0 rfl rfl (fun w hS => Qa2 (v := .int .i64 p2.Secret.Receiver) Qaw rfl (Bx.kp j hS) rfl)<|dh 0 rfl rfl (fun w hS => Qa0 Qmr rfl) ?_
   have F := ((B8.gr G4).gr d)
   refine dh 0 rfl rfl (fun w hS => Qa2 (v := .int .i64 p0.Depth) Qaw rfl (Bx.kp F hS) rfl) ?_
   obtain ⟨n9, hn9, hm⟩ := bnd hm
   refine dh 0 rfl rfl (fun w hS => Qu1 (a := 1) (b := p0.Depth) rfl rfl hn9)<|dh 0 rfl rfl (fun w hS => Qee (a := p2.Secret.Receiver) (b := Qxk 1 n9) rfl rfl)<|dm 0 rfl rfl<|Qa9 ?_
   exact ⟨rfl, (decide (Qxk 1 n9 ≤ p2.Secret.Receiver)), sbq, hm, (kz0.gr d)⟩
 clear hm; rintro a2 w5 ⟨hm, K5⟩
 have Y := K5.size
 unfold Qhr at hm
 refine Qam rfl (fun c2 => ?_) (fun c2 => ?_)
 · replace hm := Qc8 c2 hm
   refine qs 1 rfl<|qm rfl<|qb ?_
   have G := (y.kz K5)
   cases hm
   refine ⟨_, _, rfl, Qb1 rfl (Qab rfl), ?_⟩
   exact ⟨rfl, G⟩
 replace hm := Qc7 c2 hm
 refine qu<|Qa3<|qs 3 rfl<|qv rfl (Qa0 Xbs rfl) ?_
 have H := ((m.gr G4).kz K5)
 refine qv rfl (Qb6 (vs := Qbh.cs p2.Slots) Xm5 rfl H rfl rfl)<|qm rfl<|Qa1<|Qan ?_
 have A := (y.kz K5)
 refine Qbj (α := Nat × Int) ([6, 8, 9] ++ rg 46 30) (fun ⟨n2, a4⟩ => [(6, .int .i64 0), (46, .int .i64 a4)]) (fun ⟨n2, a4⟩ wr => (Qc3 (Qky p2) n2 a4 = some r) ∧ Kz [] w5 wr) (fun ⟨n2, a4⟩ => n2) ⟨Qcw, 0⟩ ?_ ?_ ?_
 · exact sbq
 · exact ⟨hm, Kz.refl _ _⟩
 clear hm; rintro ⟨n2, a4⟩ w6 ⟨hm, K6⟩
 have Z := K6.size
 have hb := Qbv hm; clear hm; obtain ⟨n2, rfl, hm⟩ := hb
 generalize s : Qc3 (Qky p2) n2 = B at hm
 unfold Qky at hm
 try dsimp only at hm
 refine qs 1 rfl<|qv rfl (Qcd (a := a4) (b := 2) rfl rfl)<|Qa1<|Qa3<|cnF rfl (fun c3 => ?_) (fun c3 => ?_)
 · replace hm := iF c3 hm
   refine Qbp<|Qb4<|Qb4<|Qbq<|Qaz<|qs 1 rfl ?_
   refine qm rfl<|Qa1<|Qag ?_
   have I := (A.kz K6)
   cases hm
   refine ⟨_, _, rfl, Qb1 rfl (Qab rfl), ?_⟩
   exact ⟨rfl, I⟩
 replace hm := iT c3 hm
 refine qu<|Qa3<|Qan<|qs 5 rfl<|qm rfl ?_
 obtain ⟨y5, J, hm⟩ := bnd hm
 refine qv rfl (Xsy (l := [p2.Slots.a0, p2.Slots.a1]) (c := Qbl.cs) (i := a4) Tryz.underlying76 (Qpk).siz Qpk rfl rfl rfl (Qji _ (fun _ => rfl) (fun _ => rfl)) rfl J)<|qe rfl (Qa8 (cs := Qbl.cs (Qbl.mk false 0 k0)) Xnq rfl) ?_
 rintro _ w7 ⟨b7, rfl, T, K, G7⟩
 refine qm rfl<|qe rfl (Qaj Qpk rfl rfl rfl K rfl rfl) ?_
 rintro _ w8 ⟨f, M8⟩
 refine Qa1 ?_
 have L := (((A.kz K6).trans G7).md M8)
 refine qj (β := Bool) (rg 50 25) (fun a6 => [(74, .bool a6)]) (fun a6 wr => (Qf4 a4 B a6 = some r) ∧ Kz [] w8 wr) ?_ ?_
 · refine qg 25 rfl<|qv rfl (Qa0 Qvj rfl)<|qv rfl (Qa2 (v := .bool y5.Full) Xbc rfl f rfl)<|qpF rfl (Qac rfl) (fun c5 => ?_) (fun c5 => ?_)
   · replace hm := Qc7 c5 hm
     refine qk rfl<|qk rfl<|qk rfl<|qk rfl<|qk rfl<|qk rfl<|qk rfl ?_
     refine qk rfl<|qk rfl<|qk rfl<|qk rfl<|qm rfl<|qm rfl<|qv rfl (Qa0 Qvj rfl) ?_
     refine qv rfl (Qa2 (v := .bool y5.Full) Xbc rfl f rfl)<|qv rfl (Qci rfl)<|qpF rfl (Qac rfl) (fun c9 => ?_) (fun c9 => ?_)
     · replace hm := Qc7 c9 hm
       refine qk rfl<|qk rfl<|qk rfl<|qm rfl<|qm rfl<|Qa9 ?_
       exact ⟨rfl, false, sbq, hm, kz0⟩
     replace hm := Qc8 c9 hm
     refine qv rfl (Qa4 Qpk rfl f rfl)<|qv rfl (Qas (cs := Qbl.cs (Qbl.mk false 0 k0)) Xnz rfl (by kernel_rfl))<|qv rfl (Qmu (cf := Qbl.cs) (a := y5) (b := (Qbl.mk false 0 k0)) Xmn rfl rfl rfl rfl (fun h => Qbl.cs_inj h))<|qm rfl<|qm rfl<|Qa9 ?_
     exact ⟨rfl, (decide (y5 ≠ (Qbl.mk false 0 k0))), sbq, hm, kz0⟩
   replace hm := Qc8 c5 hm
   refine qv rfl (Qa0 Qyu rfl)<|qv rfl (Qa2 (v := .int .i64 y5.Epoch) Qaw rfl f rfl) ?_
   obtain ⟨x7, M, hm⟩ := bnd hm
   refine qe rfl (eC Xb4 rfl (Qf3 M)) ?_
   rintro _ aa ⟨rfl, g⟩
   refine qv rfl (Qci rfl)<|qp rfl (Qac rfl) (fun c6 => ?_) (fun c6 => ?_)
   · replace hm := Qc8 c6 hm
     refine qk rfl<|qk rfl<|qk rfl<|qk rfl<|qk rfl<|qm rfl<|qm rfl ?_
     refine qm rfl<|qk rfl<|qk rfl<|qk rfl<|qk rfl<|qk rfl<|qk rfl ?_
     refine qk rfl<|qk rfl<|qm rfl<|Qa9 ?_
     exact ⟨rfl, true, sbq, hm, (kz0.gr g)⟩
   replace hm := Qc7 c6 hm
   refine qv rfl (Qa0 Qyu rfl) ?_
   have t := (f.gr g)
   refine qv rfl (Qa2 (v := .int .i64 y5.Epoch) Qaw rfl t rfl) ?_
   obtain ⟨x8, N, hm⟩ := bnd hm
   refine qv rfl (Qjv (a := y5.Epoch) (b := 2) rfl rfl N)<|qm rfl<|qv rfl (Qc2 (a := x8) (b := a4) rfl rfl)<|qm rfl<|qm rfl<|qp rfl (Qac rfl) (fun c7 => ?_) (fun c7 => ?_)
   · replace hm := iT c7 hm
     refine qk rfl<|qk rfl<|qk rfl<|qk rfl<|qk rfl<|qk rfl<|qk rfl ?_
     refine qk rfl<|qm rfl<|Qa9 ?_
     exact ⟨rfl, true, sbq, hm, (kz0.gr g)⟩
   replace hm := iF c7 hm
   refine qv rfl (Qa0 Qvj rfl)<|qv rfl (Qa2 (v := .bool y5.Full) Xbc rfl t rfl)<|qv rfl (Qci rfl)<|qpF rfl (Qac rfl) (fun c8 => ?_) (fun c8 => ?_)
   · replace hm := Qc7 c8 hm
     refine qk rfl<|qk rfl<|qk rfl<|qm rfl<|qm rfl<|Qa9 ?_
     exact ⟨rfl, false, sbq, hm, (kz0.gr g)⟩
   replace hm := Qc8 c8 hm
   refine qv rfl (Qa4 Qpk rfl t rfl)<|qv rfl (Qas (cs := Qbl.cs (Qbl.mk false 0 k0)) Xnz rfl (by kernel_rfl))<|qv rfl (Qmu (cf := Qbl.cs) (a := y5) (b := (Qbl.mk false 0 k0)) Xmn rfl rfl rfl rfl (fun h => Qbl.cs_inj h))<|qm rfl<|qm rfl<|Qa9 ?_
   exact ⟨rfl, (decide (y5 ≠ (Qbl.mk false 0 k0))), sbq, hm, (kz0.gr g)⟩
 clear hm; rintro a6 w9 ⟨hm, K9⟩
 unfold Qf4 at hm
 refine Qam rfl (fun c4 => ?_) (fun c4 => ?_)
 · replace hm := Qc8 c4 hm
   refine qs 1 rfl<|qm rfl<|Qa1<|Qag<|Qbo<|Qb2 ?_
   refine Qb2<|Qbo<|Qb2 ?_
   have O := (L.kz K9)
   cases hm
   refine ⟨_, _, rfl, Qb1 rfl (Qab rfl), ?_⟩
   exact ⟨rfl, O⟩
 replace hm := Qc7 c4 hm
 refine Qc4<|Qay<|Qaz<|qg 2 rfl<|qv rfl (Qce (k := .i64) (a := a4) (b := 1) rfl rfl)<|qm rfl<|Qa9 ?_
 have K_25 : Kz [] w5 w9 := (((K6.gr G7).md M8).kz K9)
 subst s
 exact ⟨rfl, ⟨n2, w64 (a4 + 1)⟩, sbq, ⟨hm, K_25⟩, Nat.lt_succ_self _⟩
theorem Qqn {p0 r} (hm : Qjb p0 = some r) {w : World} :
    Calls Tryz.prog 136 [.agg (Qcc.cs p0).toArray].toArray w fun e w' => ∃ v, e = .returned v ∧ (v = .bool r ∧ Gr w w') := by
 unfold Qjb at hm
 refine Qa5 21 Tryz.func136 rfl rfl rfl<|qs 2 rfl<|qe rfl (Qaq (cs := Qcc.cs p0) rfl rfl) ?_
 rintro _ w1 ⟨b1, rfl, d, c, G1⟩
 refine qm rfl<|qd 19 rfl<|qv rfl (Qa0 Qnk rfl)<|qv rfl (Qa0 Qpd rfl)<|qv rfl (Qa2 (v := .int .i64 p0.Subset.Node) Qaw rfl c rfl) ?_
 refine qv rfl (Qa0 Qnk rfl)<|qv rfl (Qa0 Qk7 rfl)<|qv rfl (Qa2 (v := .int .i64 p0.Subset.Minus) Qaw rfl c rfl)<|qv rfl (Xng rfl rfl)<|qv rfl (Qcd (a := mnI p0.Subset.Node p0.Subset.Minus) (b := 0) rfl rfl)<|qp rfl (Qac rfl) (fun c1 => ?_) (fun c1 => ?_)
 · replace hm := iT c1 hm
   refine qk rfl<|qk rfl<|qk rfl<|qk rfl<|qk rfl<|qk rfl<|qk rfl ?_
   refine qk rfl<|qm rfl<|qm rfl<|Qa1<|Qag ?_
   have X3 := ((Gr.refl w).trans G1)
   cases hm
   refine ⟨_, _, rfl, Qb1 rfl (Qab rfl), ?_⟩
   exact ⟨rfl, X3⟩
 replace hm := iF c1 hm
 refine qv rfl (Qa0 Qnk rfl)<|qv rfl (Qa0 Qpd rfl)<|qv rfl (Qa2 (v := .int .i64 p0.Subset.Node) Qaw rfl c rfl)<|qv rfl (Qa0 Qnk rfl)<|qv rfl (Qa0 Qk7 rfl)<|qv rfl (Qa2 (v := .int .i64 p0.Subset.Minus) Qaw rfl c rfl)<|qv rfl (Xhn rfl rfl) ?_
 refine qv rfl (Qey (a := mxI p0.Subset.Node p0.Subset.Minus) (b := 127) rfl rfl)<|qm rfl<|qm rfl<|Qa1<|Qag ?_
 have X4 := ((Gr.refl w).trans G1)
 cases hm
 refine ⟨_, _, rfl, Qb1 rfl (Qab rfl), ?_⟩
 exact ⟨rfl, X4⟩
theorem Qh7 {p0 vp0 zp0 gp0 op0 r} (hm : Qcv p0 = some r) {w : World} (f : Rd w zp0 gp0 op0 18 vp0 (p0.map Qcc.cs)) :
    Calls Tryz.prog 200 [vp0, .func (.func 136) [].toArray [].toArray].toArray w fun e w' => ∃ v, e = .returned v ∧ (v = .int .i64 r ∧ Gr w w') := by
 unfold Qcv at hm
 refine Qa5 19 Tryz.func200 rfl rfl rfl<|qs 1 rfl<|qm rfl<|Qa1<|Qa3<|Qa3 ?_
 refine qg 3 rfl<|qm rfl<|qv rfl (Qbi (l := p0) (c := Qcc.cs) Tryz.underlying45 rfl f)<|qm rfl<|Qa1<|Qan<|Qbj (α := Nat × Int) ([4, 5] ++ rg 8 11) (fun ⟨n1, a2⟩ => [(4, .int .i64 0), (8, .int .i64 a2)]) (fun ⟨n1, a2⟩ wr => (Qc3 (Qbu p0) n1 a2 = some r) ∧ Kz [] w wr) (fun ⟨n1, a2⟩ => n1) ⟨Qcw, 0⟩ ?_ ?_ ?_
 · exact sbq
 · exact ⟨hm, Kz.refl _ _⟩
 clear hm; rintro ⟨n1, a2⟩ w1 ⟨hm, K1⟩
 have hb := Qbv hm; clear hm; obtain ⟨n1, rfl, hm⟩ := hb
 generalize d : Qc3 (Qbu p0) n1 = j at hm
 unfold Qbu at hm
 try dsimp only at hm
 refine qs 1 rfl<|qv rfl (Qcd (a := a2) (b := (p0.length : Int)) rfl rfl)<|Qa1<|Qa3<|cnF rfl (fun c1 => ?_) (fun c1 => ?_)
 · replace hm := iF c1 hm
   refine Qbp<|Qb4<|Qb4<|Qbq<|Qaz<|qs 1 rfl ?_
   refine qm rfl<|Qa1<|Qag ?_
   have X7 := ((Gr.refl w).kz K1)
   cases hm
   refine ⟨_, _, rfl, Qb1 rfl (Qab rfl), ?_⟩
   exact ⟨rfl, X7⟩
 replace hm := iT c1 hm
 refine qu<|Qa3<|Qan<|qs 2 rfl<|qm rfl ?_
 refine qm rfl<|qd 6 rfl<|qm rfl<|qm rfl<|qm rfl ?_
 obtain ⟨y3, g, hm⟩ := bnd hm
 have B3 := (f.kz K1)
 refine qv rfl (Qf7 (i := a2) Tryz.underlying45 (Qia).siz rfl B3 rfl g)<|qv rfl (Qhs Qia rfl B3 g (by first | rfl | omega)) ?_
 obtain ⟨x4, h, hm⟩ := bnd hm
 refine qe rfl (Qcy Xpv rfl rfl (Qqn h)) ?_
 rintro _ w2 ⟨rfl, G2⟩
 refine Qa1<|Qam rfl (fun c2 => ?_) (fun c2 => ?_)
 · replace hm := Qc8 c2 hm
   refine qs 2 rfl<|qm rfl<|qm rfl<|Qa1<|Qag<|Qbo ?_
   refine Qb2<|Qb2<|Qbo<|Qb2 ?_
   have X5 := (((Gr.refl w).kz K1).trans G2)
   cases hm
   refine ⟨_, _, rfl, Qb1 rfl (Qab rfl), ?_⟩
   exact ⟨rfl, X5⟩
 replace hm := Qc7 c2 hm
 refine Qc4<|Qay<|Qaz<|qg 2 rfl<|qv rfl (Qce (k := .i64) (a := a2) (b := 1) rfl rfl)<|qm rfl<|Qa9 ?_
 have K_6 : Kz [] w w2 := (K1.gr G2)
 subst d
 exact ⟨rfl, ⟨n1, w64 (a2 + 1)⟩, sbq, ⟨hm, K_6⟩, Nat.lt_succ_self _⟩
theorem Qgb {p0 vp0 zp0 gp0 op0 r} (hm : Qco p0 = some r) {w : World} (c : Rd w zp0 gp0 op0 18 vp0 (p0.map Qcc.cs)) :
    Calls Tryz.prog 125 [vp0, .func (.func 136) [].toArray [].toArray].toArray w fun e w' => ∃ v, e = .returned v ∧ (v = .bool r ∧ Gr w w') := by
 unfold Qco at hm
 refine Qa5 9 Tryz.func125 rfl rfl rfl<|qs 1 rfl<|qm rfl<|qd 5 rfl ?_
 refine qm rfl<|qm rfl ?_
 obtain ⟨x1, d, hm⟩ := bnd hm
 refine qe rfl (eC Xm7 rfl (Qh7 d c)) ?_
 rintro _ w1 ⟨rfl, G1⟩
 refine qv rfl (Qee (a := x1) (b := 0) rfl rfl)<|qm rfl<|Qa1<|Qag ?_
 have X3 := ((Gr.refl w).trans G1)
 cases hm
 refine ⟨_, _, rfl, Qb1 rfl (Qab rfl), ?_⟩
 exact ⟨rfl, X3⟩
theorem Qs6 {p0 vp0_2 zp0_2 gp0_2 op0_2 vp0_4 zp0_4 gp0_4 op0_4 vp0_39 zp0_39 gp0_39 op0_39 r} (hm : Qks p0 = some r) {w : World} (j : Rd w zp0_2 gp0_2 op0_2 18 vp0_2 (p0.Head.Items.map Qcc.cs)) (k : Rd w zp0_4 gp0_4 op0_4 2 vp0_4 (p0.Head.Points.map Qah.cs)) (f : Rd w zp0_39 gp0_39 op0_39 1 vp0_39 (p0.Data.map bvc)) :
    Calls Tryz.prog 60 [.agg (Qai.cs p0 vp0_2 vp0_4 vp0_39).toArray].toArray w fun e w' => ∃ v, e = .returned v ∧ (v = .int .i64 r ∧ Gr w w') := by
 have B := j.lth
 have C := k.lth
 have D := f.lth
 unfold Qks at hm
 refine Qa5 99 Tryz.func60 rfl rfl rfl<|qs 2 rfl<|qe rfl (Qaq (cs := Qai.cs p0 vp0_2 vp0_4 vp0_39) rfl rfl) ?_
 rintro _ w1 ⟨b1, rfl, R, m, G1⟩
 have T := m.lt
 refine qm rfl<|qd 4 rfl<|qv rfl (Qa0 Qmf rfl)<|qv rfl (Qb6 (vs := Qaa.cs p0.Head vp0_2 vp0_4) Qcs rfl m rfl rfl)<|qe rfl (Qa8 (cs := Qaa.cs (Qaa.mk [] 0#64 [] k0 k0) (.slice none 0 0) (.slice none 0 0)) Quy rfl) ?_
 rintro _ w2 ⟨b2, rfl, S, G, G2⟩
 have Y1 := Gr.trans G1 G2
 have B8 := (j.gr Y1)
 have B9 := (k.gr Y1)
 refine qe rfl (Qaj Qcs rfl rfl (Qaa.cs_ones _ _ _ (Rd.oneB B8) (Rd.oneB B9)) G rfl rfl) ?_
 rintro _ w3 ⟨g, M3⟩
 refine Qa1 ?_
 have H := (((Gr.refl w).trans Y1).md M3)
 refine qj (β := Bool) ([4] ++ rg 9 27) (fun a1 => [(4, .bool a1)]) (fun a1 wr => (Qd4 p0 a1 = some r) ∧ Kz [] w3 wr) ?_ ?_
 · refine qg 28 rfl<|qv rfl (Qa0 Qhu rfl)<|qv rfl (Qa2 (v := vp0_2) Qkf rfl g rfl) ?_
   have I := (B8.md M3 (Qau B))
   refine qv rfl (Qbi (l := p0.Head.Items) (c := Qcc.cs) Tryz.underlying45 rfl I)<|qv rfl (Qeh (a := (p0.Head.Items.length : Int)) (b := 0) rfl rfl)<|qpF rfl (Qac rfl) (fun n => ?_) (fun n => ?_)
   · replace hm := iF n hm
     refine qk rfl<|qk rfl<|qk rfl<|qk rfl<|qm rfl<|qm rfl<|qk rfl ?_
     refine qk rfl<|qk rfl<|qm rfl<|qm rfl<|qk rfl<|qk rfl<|qk rfl ?_
     refine qk rfl<|qm rfl<|qm rfl<|qk rfl<|qk rfl<|qk rfl<|qk rfl ?_
     refine qm rfl<|qm rfl<|Qa9 ?_
     exact ⟨rfl, false, sbq, hm, kz0⟩
   replace hm := iT n hm
   refine qv rfl (Qa0 Qgi rfl)<|qv rfl (Qa2 (v := vp0_4) Qix rfl g rfl) ?_
   have J := (B9.md M3 (Qau C))
   refine qv rfl (Qbi (l := p0.Head.Points) (c := Qah.cs) Tryz.underlying46 rfl J)<|qv rfl (Qeh (a := (p0.Head.Points.length : Int)) (b := 0) rfl rfl)<|qm rfl<|qpF rfl (Qac rfl) (fun o => ?_) (fun o => ?_)
   · replace hm := iF o hm
     refine qk rfl<|qk rfl<|qk rfl<|qm rfl<|qm rfl<|qk rfl<|qk rfl ?_
     refine qk rfl<|qk rfl<|qm rfl<|qm rfl<|qk rfl<|qk rfl<|qk rfl ?_
     refine qk rfl<|qm rfl<|qm rfl<|Qa9 ?_
     exact ⟨rfl, false, sbq, hm, kz0⟩
   replace hm := iT o hm
   refine qv rfl (Qa0 Qou rfl)<|qv rfl (Qa2 (v := wv p0.Head.Base) Qb5 rfl g rfl)<|qv rfl (Qtv (c := p0.Head.Base) (d := 0#64) rfl rfl)<|qm rfl<|qpF rfl (Qac rfl) (fun s => ?_) (fun s => ?_)
   · replace hm := iF s hm
     refine qk rfl<|qk rfl<|qk rfl<|qk rfl<|qm rfl<|qm rfl<|qk rfl ?_
     refine qk rfl<|qk rfl<|qk rfl<|qm rfl<|qm rfl<|Qa9 ?_
     exact ⟨rfl, false, sbq, hm, kz0⟩
   replace hm := iT s hm
   refine qv rfl (Qa0 Qry rfl)<|qv rfl (Qb6 (vs := kb p0.Head.Box) Qak rfl g rfl rfl)<|qv rfl (Qe8 Qpx)<|qv rfl (Qv9 (cf := kb) (a := p0.Head.Box) (b := k0) Qqd rfl rfl rfl rfl (fun h => Qng h))<|qm rfl<|qpF rfl (Qac rfl) (fun t => ?_) (fun t => ?_)
   · replace hm := iF t hm
     refine qk rfl<|qk rfl<|qk rfl<|qk rfl<|qm rfl<|qm rfl<|Qa9 ?_
     exact ⟨rfl, false, sbq, hm, kz0⟩
   replace hm := iT t hm
   refine qv rfl (Qa0 Qtf rfl)<|qv rfl (Qb6 (vs := kb p0.Head.Check) Qak rfl g rfl rfl)<|qv rfl (Qe8 Qpx)<|qv rfl (Qv9 (cf := kb) (a := p0.Head.Check) (b := k0) Qqd rfl rfl rfl rfl (fun h => Qng h))<|qm rfl<|qm rfl<|Qa9 ?_
   exact ⟨rfl, (decide (p0.Head.Check = k0)), sbq, hm, kz0⟩
 clear hm; rintro a1 w4 ⟨hm, K4⟩
 unfold Qd4 at hm
 refine qs 1 rfl<|qm rfl<|qd 1 rfl<|qm rfl ?_
 refine Qa1 ?_
 have E := (H.kz K4)
 refine qj (β := Bool) ([6] ++ rg 36 61) (fun a2 => [(6, .bool a2)]) (fun a2 wr => (Qbf a2 = some r) ∧ Kz [] w4 wr) ?_ ?_
 · refine qs 2 rfl<|qv rfl (Qa0 Qyh rfl) ?_
   have i := (((m.gr G2).md M3).kz K4)
   refine qv rfl (Qa2 (v := bv p0.Kind) Qcu rfl i rfl)<|Qa1<|Qan<|qs 2 rfl<|qv rfl (Qj9 (p := p0.Kind) (q := 1#8) rfl rfl)<|qm rfl ?_
   refine Qa1<|cnF rfl (fun c2 => ?_) (fun c2 => ?_)
   · replace hm := iF c2 hm
     refine qs 2 rfl<|qv rfl (Qj9 (p := p0.Kind) (q := 2#8) rfl rfl)<|qm rfl<|Qa1<|cnF rfl (fun c9 => ?_) (fun c9 => ?_)
     · replace hm := iF c9 hm
       refine Qc4<|Qay ?_
       exact ⟨rfl, false, sbq, hm, kz0⟩
     replace hm := iT c9 hm
     refine qg 18 rfl<|qv rfl (Qa0 Qqo rfl)<|qv rfl (Qa2 (v := .int .i64 p0.Epoch) Qaw rfl i rfl)<|qv rfl (Qeh (a := p0.Epoch) (b := 0) rfl rfl)<|qpF rfl (Qac rfl) (fun u => ?_) (fun u => ?_)
     · replace hm := iF u hm
       refine qk rfl<|qk rfl<|qk rfl<|qm rfl<|qm rfl<|qk rfl<|qk rfl ?_
       refine qk rfl<|qk rfl<|qm rfl<|qm rfl<|qk rfl<|qm rfl<|qm rfl ?_
       refine Qa9<|Qay ?_
       exact ⟨rfl, false, sbq, hm, kz0⟩
     replace hm := iT u hm
     refine qv rfl (Qa0 Qy3 rfl)<|qv rfl (Qa2 (v := bv p0.Low) Qcu rfl i rfl)<|qv rfl (Qtt (p := p0.Low) (q := 4#8) rfl rfl)<|qm rfl<|qpF rfl (Qac rfl) (fun x => ?_) (fun x => ?_)
     · replace hm := iF x hm
       refine qk rfl<|qk rfl<|qk rfl<|qk rfl<|qm rfl<|qm rfl<|qk rfl ?_
       refine qm rfl<|qm rfl<|Qa9<|Qay ?_
       exact ⟨rfl, false, sbq, hm, kz0⟩
     replace hm := iT x hm
     refine qv rfl (Qa0 Qrp rfl)<|qv rfl (Qa2 (v := vp0_39) Qmm rfl i rfl) ?_
     have K := (((f.gr Y1).md M3 (Qau D)).kz K4)
     refine qv rfl (Qbi (l := p0.Data) (c := bvc) Tryz.underlying50 rfl K)<|qv rfl (Qo8 (a := (p0.Data.length : Int)) (b := 256) rfl rfl)<|qm rfl<|qp rfl (Qac rfl) (fun y => ?_) (fun y => ?_)
     · replace hm := iT y hm
       refine qm rfl<|qm rfl<|qm rfl<|Qa9<|Qay ?_
       exact ⟨rfl, a1, sbq, hm, kz0⟩
     replace hm := iF y hm
     refine qk rfl<|qm rfl<|qm rfl<|Qa9<|Qay ?_
     exact ⟨rfl, false, sbq, hm, kz0⟩
   replace hm := iT c2 hm
   refine qg 39 rfl<|qv rfl (Qa0 Qqo rfl)<|qv rfl (Qa2 (v := .int .i64 p0.Epoch) Qaw rfl i rfl) ?_
   obtain ⟨x3, L, hm⟩ := bnd hm
   refine qe rfl (eC Xb4 rfl (Qf3 L)) ?_
   rintro _ w6 ⟨rfl, G6⟩
   refine qpF rfl (Qac rfl) (fun c3 => ?_) (fun c3 => ?_)
   · replace hm := Qc7 c3 hm
     refine qk rfl<|qk rfl<|qk rfl<|qm rfl<|qm rfl<|qk rfl<|qk rfl ?_
     refine qk rfl<|qm rfl<|qm rfl<|qk rfl<|qk rfl<|qk rfl<|qk rfl ?_
     refine qm rfl<|qm rfl<|qk rfl<|qk rfl<|qk rfl<|qk rfl<|qm rfl ?_
     refine qm rfl<|qk rfl<|qk rfl<|qk rfl<|qk rfl<|qm rfl<|qm rfl ?_
     refine qk rfl<|qk rfl<|qk rfl<|qk rfl<|qk rfl<|qm rfl<|qm rfl ?_
     refine Qa9<|Qay ?_
     exact ⟨rfl, false, sbq, hm, (kz0.gr G6)⟩
   replace hm := Qc8 c3 hm
   refine qv rfl (Qa0 Qy3 rfl) ?_
   have z := (i.gr G6)
   refine qv rfl (Qa2 (v := bv p0.Low) Qcu rfl z rfl)<|qv rfl (Qj9 (p := p0.Low) (q := 0#8) rfl rfl)<|qm rfl<|qpF rfl (Qac rfl) (fun c4 => ?_) (fun c4 => ?_)
   · replace hm := iF c4 hm
     refine qk rfl<|qk rfl<|qk rfl<|qm rfl<|qm rfl<|qk rfl<|qk rfl ?_
     refine qk rfl<|qk rfl<|qm rfl<|qm rfl<|qk rfl<|qk rfl<|qk rfl ?_
     refine qk rfl<|qm rfl<|qm rfl<|qk rfl<|qk rfl<|qk rfl<|qk rfl ?_
     refine qm rfl<|qm rfl<|qk rfl<|qk rfl<|qk rfl<|qk rfl<|qk rfl ?_
     refine qm rfl<|qm rfl<|Qa9<|Qay ?_
     exact ⟨rfl, false, sbq, hm, (kz0.gr G6)⟩
   replace hm := iT c4 hm
   refine qv rfl (Qa0 Xc1 rfl)<|qv rfl (Qa2 (v := wv p0.Number) Qb5 rfl z rfl)<|qv rfl (Qtv (c := p0.Number) (d := 0#64) rfl rfl)<|qm rfl<|qpF rfl (Qac rfl) (fun c5 => ?_) (fun c5 => ?_)
   · replace hm := iF c5 hm
     refine qk rfl<|qk rfl<|qk rfl<|qk rfl<|qm rfl<|qm rfl<|qk rfl ?_
     refine qk rfl<|qk rfl<|qk rfl<|qm rfl<|qm rfl<|qk rfl<|qk rfl ?_
     refine qk rfl<|qk rfl<|qm rfl<|qm rfl<|qk rfl<|qk rfl<|qk rfl ?_
     refine qk rfl<|qk rfl<|qm rfl<|qm rfl<|Qa9<|Qay ?_
     exact ⟨rfl, false, sbq, hm, (kz0.gr G6)⟩
   replace hm := iT c5 hm
   refine qv rfl (Qa0 Qrp rfl)<|qv rfl (Qa2 (v := vp0_39) Qmm rfl z rfl) ?_
   have M := ((((f.gr Y1).md M3 (Qau D)).kz K4).gr G6)
   refine qv rfl (Qbi (l := p0.Data) (c := bvc) Tryz.underlying50 rfl M)<|qv rfl (Qeh (a := (p0.Data.length : Int)) (b := 0) rfl rfl)<|qm rfl<|qpF rfl (Qac rfl) (fun c6 => ?_) (fun c6 => ?_)
   · replace hm := iF c6 hm
     refine qk rfl<|qk rfl<|qk rfl<|qk rfl<|qm rfl<|qm rfl<|qk rfl ?_
     refine qk rfl<|qk rfl<|qk rfl<|qm rfl<|qm rfl<|qk rfl<|qk rfl ?_
     refine qk rfl<|qk rfl<|qk rfl<|qm rfl<|qm rfl<|Qa9<|Qay ?_
     exact ⟨rfl, false, sbq, hm, (kz0.gr G6)⟩
   replace hm := iT c6 hm
   refine qv rfl (Qa0 Qhu rfl) ?_
   have A := ((g.kz K4).gr G6)
   refine qv rfl (Qa2 (v := vp0_2) Qkf rfl A rfl) ?_
   have F := (((B8.md M3 (Qau B)).kz K4).gr G6)
   refine qv rfl (Qbi (l := p0.Head.Items) (c := Qcc.cs) Tryz.underlying45 rfl F)<|qv rfl (Qo8 (a := (p0.Head.Items.length : Int)) (b := 64) rfl rfl)<|qm rfl<|qpF rfl (Qac rfl) (fun c7 => ?_) (fun c7 => ?_)
   · replace hm := iF c7 hm
     refine qk rfl<|qk rfl<|qk rfl<|qk rfl<|qm rfl<|qm rfl<|qk rfl ?_
     refine qk rfl<|qk rfl<|qk rfl<|qk rfl<|qm rfl<|qm rfl<|Qa9 ?_
     refine Qay ?_
     exact ⟨rfl, false, sbq, hm, (kz0.gr G6)⟩
   replace hm := iT c7 hm
   refine qv rfl (Qa0 Qgi rfl)<|qv rfl (Qa2 (v := vp0_4) Qix rfl A rfl) ?_
   have N := (((B9.md M3 (Qau C)).kz K4).gr G6)
   refine qv rfl (Qbi (l := p0.Head.Points) (c := Qah.cs) Tryz.underlying46 rfl N)<|qv rfl (Qo8 (a := (p0.Head.Points.length : Int)) (b := 8) rfl rfl)<|qm rfl<|qpF rfl (Qac rfl) (fun c8 => ?_) (fun c8 => ?_)
   · replace hm := iF c8 hm
     refine qk rfl<|qk rfl<|qk rfl<|qk rfl<|qk rfl<|qm rfl<|qm rfl ?_
     refine Qa9<|Qay ?_
     exact ⟨rfl, false, sbq, hm, (kz0.gr G6)⟩
   replace hm := iT c8 hm
   refine qv rfl (Qa0 Qhu rfl)<|qv rfl (Qa2 (v := vp0_2) Qkf rfl A rfl)<|qm rfl ?_
   obtain ⟨x4, O, hm⟩ := bnd hm
   refine qe rfl (eC Xln rfl (Qgb O F)) ?_
   rintro _ w7 ⟨rfl, G7⟩
   refine qv rfl (Qci rfl)<|qm rfl<|qm rfl<|Qa9<|Qay ?_
   exact ⟨rfl, (!x4), sbq, hm, ((kz0.gr G6).gr G7)⟩
 clear hm; rintro a2 w5 ⟨hm, K5⟩
 unfold Qbf at hm
 refine Qa3<|qs 2 rfl<|qm rfl<|qv rfl (Qci rfl)<|Qa1<|Qam rfl (fun c1 => ?_) (fun c1 => ?_)
 · replace hm := Qc8 c1 hm
   refine qs 1 rfl<|qm rfl<|qb ?_
   have P := (E.kz K5)
   cases hm
   refine ⟨_, _, rfl, Qb1 rfl (Qab rfl), ?_⟩
   exact ⟨rfl, P⟩
 replace hm := Qc7 c1 hm
 refine qu<|qs 1 rfl<|qm rfl<|Qa1<|Qag ?_
 have Q := (E.kz K5)
 cases hm
 refine ⟨_, _, rfl, Qb1 rfl (Qab rfl), ?_⟩
 exact ⟨rfl, Q⟩
theorem Qrz {p0 vp0 zp0 gp0 op0 r} (hm : Qkn p0 = some r) {w : World} (b : Rd w zp0 gp0 op0 18 vp0 (p0.map Qb8.cs)) :
    Calls Tryz.prog 83 [vp0].toArray w fun e w' => ∃ v, e = .returned v ∧ (∃ ur0_s zr0_s gr0_s, v = ur0_s ∧ Own w' zr0_s gr0_s 92 18 ur0_s (r.map Qb8.cs) ∧ Hdn (zr0_s = 0 ∨ w.heap.size ≤ gr0_s) ∧ Gr w w') := by
 unfold Qkn at hm
 refine Qa5 8 Tryz.func83 rfl rfl rfl<|qs 1 rfl<|qm rfl<|Qa1<|Qa3<|Qa3 ?_
 refine qg 2 rfl<|qm rfl ?_
 rcases Xdi b with ⟨d, a, f⟩ | ⟨t, u, d, a⟩
 · replace hm : (some []) = some r := by rw [f] at hm; exact hm
   refine qv rfl (Qsw Tryz.underlying29 rfl a)<|Qa1<|Qjs rfl<|qs 1 rfl<|qm rfl<|Qa1 ?_
   refine Qag<|Qb2 ?_
   cases hm
   refine ⟨_, _, rfl, Qb1 rfl (Qab rfl), ?_⟩
   exact ⟨(.slice none 0 0), 0, 0, rfl, (Qax _ 0 92 18), ⟨.inl rfl⟩, (Gr.refl w)⟩
 skip
 refine qv rfl (Qsw Tryz.underlying29 rfl a)<|Qa1<|Qkv rfl<|qu<|qs 4 rfl ?_
 refine qe rfl (Qdk ([] : List Qb8) Qb8.cs Xkx rfl rfl (Qjr rfl) rfl rfl rfl) ?_
 rintro y w1 ⟨g, s, h, G1⟩
 have z3 := G1.size
 refine qm rfl ?_
 have B5 := (b.gr G1)
 obtain ⟨l1, i, hm⟩ := bnd hm
 refine qe rfl (Qk1 (l := ([] : List Qb8)) (m := p0) (c := Qb8.cs) Xlu rfl rfl h B5 i (by decide)) ?_
 rintro j w2 ⟨k, n, o, p, z, q⟩
 refine qm rfl<|Qa1<|Qag ?_
 have X7 := (((Gr.refl w).trans G1).ka p (tk1 ((.inr tk0) : 1 = 0 ∨ w.heap.size ≤ g)))
 cases hm
 refine ⟨_, _, rfl, Qb1 rfl (Qab rfl), ?_⟩
 exact ⟨j, k, n, rfl, o, ⟨(Qmj (A := (fun x => w.heap.size ≤ x)) q (.inr tk0))⟩, X7⟩
theorem Qq8 {p0 p1 p2 vp1_1 zp1_1 gp1_1 op1_1 vp2_0 zp2_0 gp2_0 op2_0 vp2_2 zp2_2 gp2_2 op2_2 r} (hm : Qil p0 p1 p2 = some r) {w : World} (z : Rd w zp1_1 gp1_1 op1_1 18 vp1_1 (p1.Labels.map Qb8.cs)) (A : Rd w zp2_0 gp2_0 op2_0 18 vp2_0 (p2.Items.map Qcc.cs)) (B : Rd w zp2_2 gp2_2 op2_2 2 vp2_2 (p2.Points.map Qah.cs)) :
    Calls Tryz.prog 25 [.agg (Qa7.cs p0).toArray, .agg (Qae.cs p1 vp1_1).toArray, .agg (Qaa.cs p2 vp2_0 vp2_2).toArray].toArray w fun e w' => ∃ v, e = .returned v ∧ (v = .tuple [kv r.1, .int .i64 r.2].toArray ∧ Gr w w') := by
 have n := z.lth
 have o := A.lth
 have s := B.lth
 unfold Qil at hm
 refine Qa5 27 Tryz.func25 rfl rfl rfl<|qs 5 rfl<|qe rfl (Qaq (cs := Qa7.cs p0) rfl rfl) ?_
 rintro _ w1 ⟨b1, rfl, bm, U, G1⟩
 have bI := U.lt
 refine qe rfl (Qaq (cs := Qae.cs p1 vp1_1) rfl rfl) ?_
 rintro _ w2 ⟨b2, rfl, bo, L, G2⟩
 have bJ := L.lt
 refine qe rfl (Qaq (cs := Qaa.cs p2 vp2_0 vp2_2) rfl rfl) ?_
 rintro _ w3 ⟨b3, rfl, bp, M, G3⟩
 have bK := M.lt
 refine qe rfl (Qa8 (cs := kb k0) Qeo rfl) ?_
 rintro _ w4 ⟨b4, rfl, bq, C, G4⟩
 have br := C.lt
 refine qm rfl<|qd 8 rfl ?_
 have Y1 := Gr.trans (Gr.trans G2 G3) G4
 have N := (U.gr Y1)
 refine qv rfl (Qa4 Qcn rfl N rfl)<|Qxq 33 Tryz.func61 rfl rfl rfl Xl2 rfl rfl rfl rfl rfl<|qs 3 rfl<|qe rfl (Qaq (cs := Qa7.cs p0) rfl rfl) ?_
 rintro _ w5 ⟨b5, rfl, bs, O, G5⟩
 have bu := O.lt
 refine qe rfl (Qa8 (cs := [.nilFunc, .nilFunc, .nilFunc, .nilFunc]) Qfw rfl) ?_
 rintro _ w6 ⟨b6, rfl, bw, E, G6⟩
 have bx := E.lt
 refine qm rfl<|qd 3 rfl<|qv rfl (Qas (cs := [.func (.func 121) #[] #[], .func (.func 137) #[] #[], .func (.func 53) #[] #[], .func (.func 138) #[] #[]]) Qlp rfl rfl)<|qe rfl (Qa8 (cs := [.nilFunc, .nilFunc, .nilFunc, .nilFunc]) Qfw rfl) ?_
 rintro _ w7 ⟨b7, rfl, bz, V, G7⟩
 have bA := V.lt
 refine qe rfl (Qaj Qav rfl rfl rfl V rfl rfl) ?_
 rintro _ w8 ⟨P, M8⟩
 have bL := M8.size
 refine qd 8 rfl<|qv rfl (Qas (cs := [.nilFunc, .nilFunc, .nilFunc, .nilFunc]) Qlp rfl rfl)<|qv rfl (Qb6 (vs := [.func (.func 121) #[] #[], .func (.func 137) #[] #[], .func (.func 53) #[] #[], .func (.func 138) #[] #[]]) Qav rfl P rfl rfl)<|qv rfl (Qb6 (vs := [.func (.func 121) #[] #[], .func (.func 137) #[] #[], .func (.func 53) #[] #[], .func (.func 138) #[] #[]]) Qav rfl P rfl rfl)<|qv rfl (Qb6 (vs := [.func (.func 121) #[] #[], .func (.func 137) #[] #[], .func (.func 53) #[] #[], .func (.func 138) #[] #[]]) Qav rfl P rfl rfl) ?_
 refine qv rfl (Qas (cs := [.func (.func 139) #[] #[], .func (.func 140) #[] #[], .func (.func 50) #[] #[], .func (.func 49) #[] #[]]) Qlp rfl rfl)<|qv rfl (Qqh (cs := [.nilFunc, .nilFunc, .nilFunc, .nilFunc, .func (.func 121) #[] #[], .func (.func 137) #[] #[], .func (.func 53) #[] #[], .func (.func 138) #[] #[], .func (.func 121) #[] #[], .func (.func 137) #[] #[], .func (.func 53) #[] #[], .func (.func 138) #[] #[], .func (.func 121) #[] #[], .func (.func 137) #[] #[], .func (.func 53) #[] #[], .func (.func 138) #[] #[], .func (.func 139) #[] #[], .func (.func 140) #[] #[], .func (.func 50) #[] #[], .func (.func 49) #[] #[]]) Xd3 rfl rfl)<|qe rfl (Qa8 (cs := [.nilFunc, .nilFunc, .nilFunc, .nilFunc, .nilFunc, .nilFunc, .nilFunc, .nilFunc, .nilFunc, .nilFunc, .nilFunc, .nilFunc, .nilFunc, .nilFunc, .nilFunc, .nilFunc, .nilFunc, .nilFunc, .nilFunc, .nilFunc]) Qzv rfl) ?_
 rintro _ w9 ⟨b9, rfl, bB, W, G9⟩
 have bC := W.lt
 refine qe rfl (Qaj Qxy rfl rfl rfl W rfl rfl) ?_
 rintro _ av ⟨I, d⟩
 have bM := d.size
 refine Qa1<|Qa3 ?_
 have Y2 := Gr.trans (Gr.trans (Gr.trans (Gr.trans G1 Y1) G5) G6) G7
 have D := (((((Gr.refl w).trans Y2).md M8).trans G9).md d)
 refine qj (β := Bool) (rg 14 9) (fun a1 => [(22, .bool a1)]) (fun a1 wr => (Qin p0 p1 p2 a1 = some r) ∧ Kz [] av wr) ?_ ?_
 · refine qg 9 rfl<|qv rfl (Qa0 Qi3 rfl) ?_
   have Y3 := Gr.trans G6 G7
   have X := ((((O.gr Y3).md M8).gr G9).md d)
   refine qv rfl (Qa2 (v := bv p0.Kind) Qcu rfl X rfl)<|qv rfl (Qtt (p := p0.Kind) (q := 1#8) rfl rfl)<|qp rfl (Qac rfl) (fun c6 => ?_) (fun c6 => ?_)
   · replace hm := iT c6 hm
     refine qk rfl<|qk rfl<|qk rfl<|qk rfl<|qm rfl<|Qa9 ?_
     exact ⟨rfl, true, sbq, hm, kz0⟩
   replace hm := iF c6 hm
   refine qv rfl (Qa0 Qi3 rfl)<|qv rfl (Qa2 (v := bv p0.Kind) Qcu rfl X rfl)<|qv rfl (Qw6 Qna rfl)<|qv rfl (Qee (a := un8 p0.Kind) (b := 5) rfl rfl)<|qm rfl<|Qa9 ?_
   exact ⟨rfl, (decide ((5 : Int) ≤ un8 p0.Kind)), sbq, hm, kz0⟩
 clear hm; rintro a1 bN ⟨hm, c⟩
 have bO := c.size
 unfold Qin at hm
 refine Qam rfl (fun c1 => ?_) (fun c1 => ?_)
 · replace hm := Qc8 c1 hm
   refine qs 3 rfl<|qv rfl (Qas (cs := [.nilFunc, .nilFunc, .nilFunc, .nilFunc]) Qlp rfl rfl) ?_
   have aw := (((((E.gr G7).md M8).gr G9).md d).kz c)
   refine qe rfl (Qaj Qav rfl rfl rfl aw rfl rfl) ?_
   rintro _ bP ⟨Y, Q⟩
   have bQ := Q.size
   refine qm rfl<|qb<|⟨_, _, rfl, Qbk rfl (Qap Qav rfl Y rfl) (Qab rfl), ?_⟩
   refine qm rfl<|qm rfl<|qm rfl<|qe rfl (Qa8 (cs := [.nilFunc, .nilFunc, .nilFunc, .nilFunc]) Qfw rfl) ?_
   rintro _ bR ⟨bS, rfl, ax, Z, aa⟩
   refine qe rfl (Qaj Qav rfl rfl rfl Z rfl rfl) ?_
   rintro _ bT ⟨bD, ab⟩
   refine qm rfl<|Qa1<|Qa3<|qs 2 rfl<|qm rfl<|qv rfl (Qc2 (a := 2) (b := 0) rfl rfl) ?_
   refine Qa1<|Qjs rfl<|qs 4 rfl<|qv rfl (Qe8 Qpx)<|qm rfl ?_
   have Y4 := Gr.trans (Gr.trans G5 G6) G7
   have ay := ((((((((C.gr Y4).md M8).gr G9).md d).kz c).md Q).gr aa).md ab)
   refine qe rfl (Qaj Qak rfl rfl rfl ay rfl rfl) ?_
   rintro _ bU ⟨ac, az⟩
   refine qm rfl<|qb ?_
   have aA := (((((D.kz c).md Q).trans aa).md ab).md az)
   cases hm
   refine ⟨_, _, rfl, Qbk rfl (Qap Qak rfl ac rfl) (Qab rfl), ?_⟩
   exact ⟨rfl, aA⟩
 replace hm := Qc7 c1 hm
 refine qu<|qs 6 rfl<|qv rfl (Qa0 Qi3 rfl) ?_
 have Y5 := Gr.trans G6 G7
 have R := (((((O.gr Y5).md M8).gr G9).md d).kz c)
 refine qv rfl (Qa2 (v := bv p0.Kind) Qcu rfl R rfl) ?_
 by_cases c2 : (un8 p0.Kind = 1 ∨ un8 p0.Kind = 2 ∨ un8 p0.Kind = 3)
 · replace hm := Qzd c2 hm
   refine qv rfl (Quo Tryz.underlying206 (Qav).siz rfl rfl (by omega)) ?_
   have aB := (I.kz c)
   refine qv rfl (Qb6 (vs := [.func (.func 121) #[] #[], .func (.func 137) #[] #[], .func (.func 53) #[] #[], .func (.func 138) #[] #[]]) Qav rfl aB (by rcases c2 with h | h | h <;> rw [h] <;> rfl) rfl)<|qe rfl (Qa8 (cs := [.nilFunc, .nilFunc, .nilFunc, .nilFunc]) Qfw rfl) ?_
   rintro _ bV ⟨bW, rfl, aC, J, k⟩
   have bE := J.lt
   refine qe rfl (Qaj Qav rfl rfl rfl J rfl rfl) ?_
   rintro _ bX ⟨ad, f⟩
   have bY := f.size
   refine Qa1<|Qa3<|dw [([b6])] [] (.leaf [(0,10),(1,10),(2,10),(3,10),(4,0),(5,0),(6,10)]) ?_
   intro aD S bF
   refine Qal ?_
   have ae := (ad.gr S)
   refine dh 0 rfl rfl (fun w hS => Qb6 (vs := [.func (.func 121) #[] #[], .func (.func 137) #[] #[], .func (.func 53) #[] #[], .func (.func 138) #[] #[]]) Qav rfl (Bx.kp ae hS) rfl rfl)<|dh 0 rfl rfl (fun w hS => Qa0 Qne rfl)<|dh 0 rfl rfl (fun w hS => Qa2 (v := .func (.func 121) #[] #[]) Qsn rfl (Bx.kp ae hS) rfl) ?_
   have aE := (((R.gr k).md f).gr S)
   refine dh 0 rfl rfl (fun w hS => Qa4 Qcn rfl (Bx.kp aE hS) rfl) ?_
   obtain ⟨x2, aF, hm⟩ := bnd hm
   refine qz [] rfl (Qcy Xa5 rfl rfl (Qk2 aF)) ⟨fun _ => tk0, trivial⟩ ?_
   rintro _ bZ ⟨rfl, F⟩
   have b0 := F.size
   refine kG F ?_
   have Y6 := Gr.trans S F
   have aG := ((((((((E.gr G7).md M8).gr G9).md d).kz c).gr k).md f).gr Y6)
   refine qz [(1, b6)] rfl (Qaj Qav rfl rfl rfl aG rfl rfl) ⟨fun _ => tk0, trivial⟩ ?_
   rintro _ b8 ⟨af, g⟩
   have ca := g.size
   refine kM g ?_
   have aH := (((Kp.refl ([b6]) aD).gr F).md g)
   refine dn 0 rfl rfl aH<|Qa1<|Qag<|⟨_, _, rfl, Qbk rfl (Qap Qav rfl af rfl) (Qab rfl), ?_⟩
   refine qm rfl<|qm rfl<|qm rfl<|qe rfl (Qa8 (cs := [.nilFunc, .nilFunc, .nilFunc, .nilFunc]) Qfw rfl) ?_
   rintro _ cb ⟨cc, rfl, aI, ag, t⟩
   refine qe rfl (Qaj Qav rfl rfl rfl ag rfl rfl) ?_
   rintro _ cd ⟨ah, u⟩
   refine qm rfl<|Qa1<|Qa3<|qs 2 rfl<|qm rfl<|qv rfl (Qc2 (a := x2) (b := 0) rfl rfl) ?_
   refine Qa1<|Qam rfl (fun c3 => ?_) (fun c3 => ?_)
   · replace hm := iT c3 hm
     refine qs 4 rfl<|qv rfl (Qe8 Qpx)<|qm rfl ?_
     have Y7 := Gr.trans G5 Y5
     have aJ := (((((((((((C.gr Y7).md M8).gr G9).md d).kz c).gr k).md f).gr Y6).md g).gr t).md u)
     refine qe rfl (Qaj Qak rfl rfl rfl aJ rfl rfl) ?_
     rintro _ ce ⟨ai, aK⟩
     refine qm rfl<|qb ?_
     have aL := ((((((((D.kz c).trans k).md f).trans Y6).md g).trans t).md u).md aK)
     cases hm
     refine ⟨_, _, rfl, Qbk rfl (Qap Qak rfl ai rfl) (Qab rfl), ?_⟩
     exact ⟨rfl, aL⟩
   replace hm := iF c3 hm
   refine qu<|qs 10 rfl<|qv rfl (Qa0 Xea rfl)<|qv rfl (Qa2 (v := .func (.func 53) #[] #[]) Xfj rfl ah rfl) ?_
   have Y8 := Gr.trans G5 Y5
   have aM := (((((((((((N.gr Y8).md M8).gr G9).md d).kz c).gr k).md f).gr Y6).md g).gr t).md u)
   refine qv rfl (Qa4 Qcn rfl aM rfl) ?_
   have Y9 := Gr.trans (Gr.trans G3 G4) Y8
   have aN := (((((((((((L.gr Y9).md M8).gr G9).md d).kz c).gr k).md f).gr Y6).md g).gr t).md u)
   refine qv rfl (Qa4 Qeg rfl aN rfl) ?_
   have aO := Gr.trans G4 Y8
   have aP := (((((((((((M.gr aO).md M8).gr G9).md d).kz c).gr k).md f).gr Y6).md g).gr t).md u)
   refine qv rfl (Qa4 Qcs rfl aP rfl) ?_
   have aQ := (((((((((((z.gr Y2).md M8 (Qau n)).gr G9).md d (Qau n)).kz c).gr k).md f (Qau n)).gr Y6).md g (Qau n)).gr t).md u (Qau n))
   have aR := (((((((((((A.gr Y2).md M8 (Qau o)).gr G9).md d (Qau o)).kz c).gr k).md f (Qau o)).gr Y6).md g (Qau o)).gr t).md u (Qau o))
   have aS := (((((((((((B.gr Y2).md M8 (Qau s)).gr G9).md d (Qau s)).kz c).gr k).md f (Qau s)).gr Y6).md g (Qau s)).gr t).md u (Qau s))
   obtain ⟨x3, aT, hm⟩ := bnd hm
   refine qe rfl (Qcy Xus rfl rfl (Xa8 aT aQ aR aS)) ?_
   rintro _ cf ⟨rfl, aj⟩
   refine qm rfl<|qm rfl ?_
   have aU := ((((((((((((C.gr Y8).md M8).gr G9).md d).kz c).gr k).md f).gr Y6).md g).gr t).md u).gr aj)
   refine qe rfl (Qaj Qak rfl rfl rfl aU rfl rfl) ?_
   rintro _ cg ⟨ak, aV⟩
   refine qm rfl<|Qa1<|Qag ?_
   have aW := (((((((((D.kz c).trans k).md f).trans Y6).md g).trans t).md u).trans aj).md aV)
   cases hm
   refine ⟨_, _, rfl, Qbk rfl (Qap Qak rfl ak rfl) (Qab rfl), ?_⟩
   exact ⟨rfl, aW⟩
 replace hm := Qyd c2 hm
 by_cases c4 : (un8 p0.Kind = 4)
 · replace hm := Qzd c4 hm
   refine qv rfl (Quo Tryz.underlying206 (Qav).siz rfl rfl (by omega)) ?_
   have aX := (I.kz c)
   refine qv rfl (Qb6 (vs := [.func (.func 139) #[] #[], .func (.func 140) #[] #[], .func (.func 50) #[] #[], .func (.func 49) #[] #[]]) Qav rfl aX (by rw [c4]; rfl) rfl)<|qe rfl (Qa8 (cs := [.nilFunc, .nilFunc, .nilFunc, .nilFunc]) Qfw rfl) ?_
   rintro _ ch ⟨ci, rfl, aY, K, l⟩
   have bG := K.lt
   refine qe rfl (Qaj Qav rfl rfl rfl K rfl rfl) ?_
   rintro _ cj ⟨al, i⟩
   have ck := i.size
   refine Qa1<|Qa3<|dw [([b6])] [] (.leaf [(0,10),(1,10),(2,10),(3,10),(4,0),(5,0),(6,10)]) ?_
   intro aZ T bH
   refine Qal ?_
   have am := (al.gr T)
   refine dh 0 rfl rfl (fun w hS => Qb6 (vs := [.func (.func 139) #[] #[], .func (.func 140) #[] #[], .func (.func 50) #[] #[], .func (.func 49) #[] #[]]) Qav rfl (Bx.kp am hS) rfl rfl)<|dh 0 rfl rfl (fun w hS => Qa0 Qne rfl)<|dh 0 rfl rfl (fun w hS => Qa2 (v := .func (.func 139) #[] #[]) Qsn rfl (Bx.kp am hS) rfl) ?_
   have a0 := (((R.gr l).md i).gr T)
   refine dh 0 rfl rfl (fun w hS => Qa4 Qcn rfl (Bx.kp a0 hS) rfl) ?_
   obtain ⟨x4, a2, hm⟩ := bnd hm
   refine qz [] rfl (Qcy Xdm rfl rfl (Qn4 a2)) ⟨fun _ => tk0, trivial⟩ ?_
   rintro _ cl ⟨rfl, G⟩
   have cm := G.size
   refine kG G ?_
   have m := Gr.trans T G
   have a3 := ((((((((E.gr G7).md M8).gr G9).md d).kz c).gr l).md i).gr m)
   refine qz [(1, b6)] rfl (Qaj Qav rfl rfl rfl a3 rfl rfl) ⟨fun _ => tk0, trivial⟩ ?_
   rintro _ cn ⟨an, j⟩
   have co := j.size
   refine kM j ?_
   have a4 := (((Kp.refl ([b6]) aZ).gr G).md j)
   refine dn 0 rfl rfl a4<|Qa1<|Qag<|⟨_, _, rfl, Qbk rfl (Qap Qav rfl an rfl) (Qab rfl), ?_⟩
   refine qm rfl<|qm rfl<|qm rfl<|qe rfl (Qa8 (cs := [.nilFunc, .nilFunc, .nilFunc, .nilFunc]) Qfw rfl) ?_
   rintro _ cp ⟨cq, rfl, a5, ao, x⟩
   refine qe rfl (Qaj Qav rfl rfl rfl ao rfl rfl) ?_
   rintro _ cr ⟨ap, y⟩
   refine qm rfl<|Qa1<|Qa3<|qs 2 rfl<|qm rfl<|qv rfl (Qc2 (a := x4) (b := 0) rfl rfl) ?_
   refine Qa1<|Qam rfl (fun c5 => ?_) (fun c5 => ?_)
   · replace hm := iT c5 hm
     refine qs 4 rfl<|qv rfl (Qe8 Qpx)<|qm rfl ?_
     have a6 := Gr.trans G5 Y5
     have a7 := (((((((((((C.gr a6).md M8).gr G9).md d).kz c).gr l).md i).gr m).md j).gr x).md y)
     refine qe rfl (Qaj Qak rfl rfl rfl a7 rfl rfl) ?_
     rintro _ ct ⟨aq, a8⟩
     refine qm rfl<|qb ?_
     have a9 := ((((((((D.kz c).trans l).md i).trans m).md j).trans x).md y).md a8)
     cases hm
     refine ⟨_, _, rfl, Qbk rfl (Qap Qak rfl aq rfl) (Qab rfl), ?_⟩
     exact ⟨rfl, a9⟩
   replace hm := iF c5 hm
   refine qu<|qs 10 rfl<|qv rfl (Qa0 Xea rfl)<|qv rfl (Qa2 (v := .func (.func 50) #[] #[]) Xfj rfl ap rfl) ?_
   have H := Gr.trans G5 Y5
   have ba := (((((((((((N.gr H).md M8).gr G9).md d).kz c).gr l).md i).gr m).md j).gr x).md y)
   refine qv rfl (Qa4 Qcn rfl ba rfl) ?_
   have bb := Gr.trans (Gr.trans G3 G4) H
   have bc := (((((((((((L.gr bb).md M8).gr G9).md d).kz c).gr l).md i).gr m).md j).gr x).md y)
   refine qv rfl (Qa4 Qeg rfl bc rfl) ?_
   have bd := Gr.trans G4 H
   have be := (((((((((((M.gr bd).md M8).gr G9).md d).kz c).gr l).md i).gr m).md j).gr x).md y)
   refine qv rfl (Qa4 Qcs rfl be rfl) ?_
   have bf := (((((((((((z.gr Y2).md M8 (Qau n)).gr G9).md d (Qau n)).kz c).gr l).md i (Qau n)).gr m).md j (Qau n)).gr x).md y (Qau n))
   have bg := (((((((((((A.gr Y2).md M8 (Qau o)).gr G9).md d (Qau o)).kz c).gr l).md i (Qau o)).gr m).md j (Qau o)).gr x).md y (Qau o))
   have bh := (((((((((((B.gr Y2).md M8 (Qau s)).gr G9).md d (Qau s)).kz c).gr l).md i (Qau s)).gr m).md j (Qau s)).gr x).md y (Qau s))
   obtain ⟨x5, bi, hm⟩ := bnd hm
   refine qe rfl (Qcy Xuv rfl rfl (Xc2 bi bf bg bh)) ?_
   rintro _ cu ⟨rfl, ar⟩
   refine qm rfl<|qm rfl ?_
   have bj := ((((((((((((C.gr H).md M8).gr G9).md d).kz c).gr l).md i).gr m).md j).gr x).md y).gr ar)
   refine qe rfl (Qaj Qak rfl rfl rfl bj rfl rfl) ?_
   rintro _ cv ⟨au, bk⟩
   refine qm rfl<|Qa1<|Qag ?_
   have bl := (((((((((D.kz c).trans l).md i).trans m).md j).trans x).md y).trans ar).md bk)
   cases hm
   refine ⟨_, _, rfl, Qbk rfl (Qap Qak rfl au rfl) (Qab rfl), ?_⟩
   exact ⟨rfl, bl⟩
 replace hm := Qyd c4 hm
 cases hm
theorem Qyf {p0 p1 p2 p3 p4 bp2 vp2_1 zp2_1 gp2_1 op2_1 vp3_2 zp3_2 gp3_2 op3_2 vp3_4 zp3_4 gp3_4 op3_4 vp3_39 zp3_39 gp3_39 op3_39 r} (hm : Qrx p0 p1 p2 p3 p4 = some r) {w : World} (hbp2 : Bx w bp2 78 (Qad.cs p2 vp2_1)) (j : Rd w zp2_1 gp2_1 op2_1 18 vp2_1 (p2.Secret.Labels.map Qb8.cs)) (f : Rd w zp3_2 gp3_2 op3_2 18 vp3_2 (p3.Head.Items.map Qcc.cs)) (g : Rd w zp3_4 gp3_4 op3_4 2 vp3_4 (p3.Head.Points.map Qah.cs)) (p : Rd w zp3_39 gp3_39 op3_39 1 vp3_39 (p3.Data.map bvc)) (aR : Hdn (zp2_1 = 0 ∨ gp2_1 ≠ bp2)) (aS : Hdn (zp3_2 = 0 ∨ gp3_2 ≠ bp2)) (aT : Hdn (zp3_4 = 0 ∨ gp3_4 ≠ bp2)) (aU : Hdn (zp3_39 = 0 ∨ gp3_39 ≠ bp2)) :
    Calls Tryz.prog 84 [.agg (Qa7.cs p0).toArray, .agg (Qfr.cs p1).toArray, .pointer (some ⟨bp2, 0, none⟩), .agg (Qai.cs p3 vp3_2 vp3_4 vp3_39).toArray, .int .i64 p4].toArray w fun e w' => ∃ v, e = .returned v ∧ (v = .int .i64 r.1 ∧ Bx w' bp2 78 (Qad.cs r.2 vp2_1) ∧ Kz [(1, bp2)] w w') := by
 unfold Qrx at hm
 refine Qa5 66 Tryz.func84 rfl rfl rfl<|qs 4 rfl<|qe rfl (Qaq (cs := Qa7.cs p0) rfl rfl) ?_
 rintro _ w1 ⟨b1, rfl, aM, U, G1⟩
 refine qe rfl (Qaq (cs := Qfr.cs p1) rfl rfl) ?_
 rintro _ w2 ⟨b2, rfl, aN, V, G2⟩
 refine qe rfl (Qaq (cs := Qai.cs p3 vp3_2 vp3_4 vp3_39) rfl rfl) ?_
 rintro _ w3 ⟨b3, rfl, aO, W, G3⟩
 refine qm rfl<|Qa1<|Qa3<|dw [([])] [] (.leaf [(0,10),(1,10),(2,10),(3,10),(4,10),(5,10),(6,10),(7,10)]) ?_
 intro w4 G4 aV
 refine Qal<|dm 0 rfl rfl<|dh 0 rfl rfl (fun w hS => Qa0 Qqo rfl) ?_
 have k := (W.gr G4)
 refine dh 0 rfl rfl (fun w hS => Qa2 (v := .int .i64 p3.Epoch) Qaw rfl (Bx.kp k hS) rfl) ?_
 obtain ⟨x1, X, hm⟩ := bnd hm
 refine dh 0 rfl rfl (fun w hS => Qjv (a := p3.Epoch) (b := 2) rfl rfl X)<|dh 0 rfl rfl (fun w hS => Qfg rfl rfl)<|dh 0 rfl rfl (fun w hS => Qa0 Xbs rfl) ?_
 obtain ⟨y2, n, hm⟩ := bnd hm
 refine dh 0 rfl rfl (fun w hS => Xl4 (l := [p2.Slots.a0, p2.Slots.a1]) (i := x1) Tryz.underlying76 (Qpk).siz rfl rfl n rfl)<|dm 0 rfl rfl<|Qa1<|Qa3<|qs 6 rfl ?_
 have Y1 := Gr.trans G3 G4
 have Y := (V.gr Y1)
 refine qv rfl (Qa4 Qht rfl Y rfl)<|qm rfl<|qv rfl (Qa0 Qqo rfl)<|qv rfl (Qa2 (v := .int .i64 p3.Epoch) Qaw rfl k rfl) ?_
 obtain ⟨x3, Z, hm⟩ := bnd hm
 refine qe rfl (eC Xrr rfl (Qrc Z)) ?_
 rintro _ w5 ⟨rfl, G5⟩
 refine qv rfl (Qci rfl)<|Qa1<|Qam rfl (fun c1 => ?_) (fun c1 => ?_)
 · replace hm := Qc8 c1 hm
   refine qs 1 rfl<|qm rfl<|qb ?_
   have Y2 := Gr.trans (Gr.trans (Gr.trans G1 G2) Y1) G5
   have aa := (hbp2.gr Y2)
   have ab := ((Kz.refl [(1, bp2)] w).gr Y2)
   cases hm
   refine ⟨_, _, rfl, Qb1 rfl (Qab rfl), ?_⟩
   exact ⟨rfl, aa, ab⟩
 replace hm := Qc7 c1 hm
 refine qu<|Qa3 ?_
 have Y3 := Gr.trans (Gr.trans (Gr.trans G1 G2) Y1) G5
 have H := ((Kz.refl [(1, bp2)] w).gr Y3)
 refine qj (β := Bool) (rg 27 13) (fun a4 => [(39, .bool a4)]) (fun a4 wr => (Qku p0 p2 p3 x1 a4 = some r) ∧ Kz [] w5 wr) ?_ ?_
 · refine dw [([])] [] (.leaf [(0,10),(1,10),(2,10),(3,10),(4,10),(5,10),(6,10),(7,10),(8,10),(9,10),(10,10),(11,10),(12,10)]) ?_
   intro ac s aP
   refine Qal<|dm 0 rfl rfl<|dh 0 rfl rfl (fun w hS => Qfg rfl rfl)<|dh 0 rfl rfl (fun w hS => Qa0 Qvj rfl) ?_
   have I := ((hbp2.gr Y3).gr s)
   refine dh 0 rfl rfl (fun w hS => Qk9 (q := 0) (u := .bool y2.Full) Xbc rfl (Xe9 (o := 5) (sz := 18) (xs := [p2.Slots.a0, p2.Slots.a1].map Qbl.cs) (m := 2) (cap := 2) (Bx.kp I hS) (Qji _ (fun _ => rfl) (fun _ => rfl)) rfl rfl) n (by first | rfl | omega) rfl)<|qqF 0 rfl rfl (Kp.refl ([]) ac) (fun w hS => Qac rfl) (fun c5 => ?_) (fun c5 => ?_)
   · replace hm := Qc7 c5 hm
     refine dx 0 rfl rfl<|dx 0 rfl rfl<|dx 0 rfl rfl<|dx 0 rfl rfl<|dx 0 rfl rfl<|dx 0 rfl rfl<|dx 0 rfl rfl ?_
     refine dm 0 rfl rfl<|Qa9 ?_
     exact ⟨rfl, false, sbq, hm, (kz0.gr s)⟩
   replace hm := Qc8 c5 hm
   refine dm 0 rfl rfl<|dh 0 rfl rfl (fun w hS => Qfg rfl rfl)<|dh 0 rfl rfl (fun w hS => Qa0 Qyu rfl)<|dh 0 rfl rfl (fun w hS => Qk9 (q := 1) (u := .int .i64 y2.Epoch) Qaw rfl (Xe9 (o := 5) (sz := 18) (xs := [p2.Slots.a0, p2.Slots.a1].map Qbl.cs) (m := 2) (cap := 2) (Bx.kp I hS) (Qji _ (fun _ => rfl) (fun _ => rfl)) rfl rfl) n (by first | rfl | omega) rfl)<|dh 0 rfl rfl (fun w hS => Qa0 Qqo rfl) ?_
   have ad := ((k.gr G5).gr s)
   refine dh 0 rfl rfl (fun w hS => Qa2 (v := .int .i64 p3.Epoch) Qaw rfl (Bx.kp ad hS) rfl)<|dh 0 rfl rfl (fun w hS => Qee (a := y2.Epoch) (b := p3.Epoch) rfl rfl)<|dm 0 rfl rfl<|Qa9 ?_
   exact ⟨rfl, (decide (p3.Epoch ≤ y2.Epoch)), sbq, hm, (kz0.gr s)⟩
 clear hm; rintro a4 w6 ⟨hm, K6⟩
 unfold Qku at hm
 refine Qam rfl (fun c2 => ?_) (fun c2 => ?_)
 · replace hm := Qc8 c2 hm
   refine qs 1 rfl<|qm rfl<|qb ?_
   have ae := ((hbp2.gr Y3).kz K6)
   have af := (H.kz K6)
   cases hm
   refine ⟨_, _, rfl, Qb1 rfl (Qab rfl), ?_⟩
   exact ⟨rfl, ae, af⟩
 replace hm := Qc7 c2 hm
 refine qu ?_
 have A := (H.kz K6)
 refine qj (β := W2 × Int × Nat) ([12, 13] ++ rg 40 11) (fun ⟨a6, a7, bq5⟩ => [(12, .pointer (some ⟨bq5, 0, none⟩)), (13, .int .i64 a7)]) (fun ⟨a6, a7, bq5⟩ wr => (Qny p2 p3 x1 a6 a7 = some r) ∧ Bx wr bq5 23 (kb a6) ∧ w6.heap.size ≤ bq5 ∧ Kz [] w6 wr) ?_ ?_
 · refine dw [([])] [] (.fork [(0,10),(1,10),(2,10),(3,10),(4,10),(5,10),(6,10)] (.leaf [(7,0),(8,10),(9,10),(10,10),(11,0),(12,0),(13,10)]) (.leaf [(11,0),(7,0),(8,10),(9,10),(10,10),(12,0),(13,10)])) ?_
   intro J d aQ
   refine Qbc ?_
   have Y4 := Gr.trans (Gr.trans G2 Y1) G5
   have ag := (((U.gr Y4).kz K6).gr d)
   refine dh 0 rfl rfl (fun w hS => Qa4 Qcn rfl (Bx.kp ag hS) rfl)<|dm 0 rfl rfl<|dh 0 rfl rfl (fun w hS => Qfg rfl rfl)<|dh 0 rfl rfl (fun w hS => Qa0 Qvv rfl) ?_
   have ah := (((hbp2.gr Y3).kz K6).gr d)
   refine dh 0 rfl rfl (fun w hS => Qb6 (vs := Qae.cs p2.Secret vp2_1) Qeg rfl (Bx.kp ah hS) rfl rfl)<|dh 0 rfl rfl (fun w hS => Qa0 Qmf rfl) ?_
   have ai := (((k.gr G5).kz K6).gr d)
   refine dh 0 rfl rfl (fun w hS => Qb6 (vs := Qaa.cs p3.Head vp3_2 vp3_4) Qcs rfl (Bx.kp ai hS) rfl rfl)<|Qbt ?_ ?_
   · refine Qal ?_
     have aj := (((j.gr Y3).kz K6).gr d)
     have ak := (((f.gr Y3).kz K6).gr d)
     have al := (((g.gr Y3).kz K6).gr d)
     obtain ⟨x9, am, hm⟩ := bnd hm
     refine qz [] rfl (eC Xn0 rfl (Qq8 am aj ak al)) ⟨fun _ => tk0, trivial⟩ ?_
     rintro _ aW ⟨rfl, t⟩
     have aX := t.size
     refine kG t ?_
     have x := ((Kp.refl ([]) J).gr t)
     refine dn 0 rfl rfl x<|dn 0 rfl rfl x<|dn 0 rfl rfl x<|qz [] rfl (Qa8 (cs := kb k0) Qeo rfl) ⟨fun _ => tk0, trivial⟩ ?_
     rintro _ aY ⟨K, rfl, an, L, B⟩
     refine kG B<|qz [(1, K)] rfl (Qaj Qak rfl rfl rfl L rfl rfl) ⟨fun _ => tk0, trivial⟩ ?_
     rintro _ aZ ⟨M, C⟩
     refine kM C ?_
     have ao := ((x.gr B).md C)
     refine dn 0 rfl rfl ao<|Qa9 ?_
     exact ⟨rfl, ⟨x9.1, x9.2, K⟩, sbq, hm, M, (by omega), ((((kz0.gr d).gr t).gr B).md C)⟩
   refine Qal<|qz [] rfl (Qa8 (cs := kb k0) Qeo rfl) ⟨fun _ => tk0, trivial⟩ ?_
   rintro _ a2 ⟨N, rfl, ap, O, D⟩
   refine kG D ?_
   have Y5 := Gr.trans d D
   have aq := (((j.gr Y3).kz K6).gr Y5)
   have ar := (((f.gr Y3).kz K6).gr Y5)
   have au := (((g.gr Y3).kz K6).gr Y5)
   obtain ⟨P, Q, hm⟩ := bnd hm
   refine qz [] rfl (eC Xn0 rfl (Qq8 Q aq ar au)) ⟨fun _ => tk0, trivial⟩ ?_
   rintro _ a3 ⟨rfl, y⟩
   refine kG y ?_
   have z := (((Kp.refl ([]) J).gr D).gr y)
   refine dn 0 rfl rfl z<|dn 0 rfl rfl z<|dn 0 rfl rfl z ?_
   have av := (O.gr y)
   refine qz [(1, N)] rfl (Qaj Qak rfl rfl rfl av rfl rfl) ⟨fun _ => tk0, trivial⟩ ?_
   rintro _ a5 ⟨R, E⟩
   refine kM E ?_
   have aw := (z.md E)
   refine dn 0 rfl rfl aw<|Qa9 ?_
   exact ⟨rfl, ⟨P.1, P.2, N⟩, sbq, hm, R, (by omega), (((kz0.gr Y5).gr y).md E)⟩
 clear hm; rintro ⟨a6, a7, bq5⟩ w7 ⟨hm, F, ax, K7⟩
 unfold Qny at hm
 refine Qa3<|qs 2 rfl<|qm rfl<|qv rfl (Qc2 (a := a7) (b := 0) rfl rfl)<|Qa1<|Qam rfl (fun c3 => ?_) (fun c3 => ?_)
 · replace hm := iT c3 hm
   refine qs 2 rfl<|qm rfl<|qm rfl<|Qa1<|Qag<|Qb2 ?_
   have ay := (((hbp2.gr Y3).kz K6).kz K7)
   have az := (A.kz K7)
   cases hm
   refine ⟨_, _, rfl, Qb1 rfl (Qab rfl), ?_⟩
   exact ⟨rfl, ay, az⟩
 replace hm := iF c3 hm
 refine qu<|Qa3<|Qa3<|dw [([])] [] (.leaf [(0,10),(1,10),(3,10),(4,10),(2,0),(5,10)]) ?_
 intro w8 G8 a8
 refine Qal ?_
 have S := (F.gr G8)
 refine dh 0 rfl rfl (fun w hS => Qa4 Qak rfl (Bx.kp S hS) rfl) ?_
 have G := ((((k.gr G5).kz K6).kz K7).gr G8)
 refine dh 0 rfl rfl (fun w hS => Qa4 Qcr rfl (Bx.kp G hS) rfl)<|dh 0 rfl rfl (fun w hS => Qa0 Qye rfl)<|dh 0 rfl rfl (fun w hS => Qb6 (vs := kb p3.Mac) Qak rfl (Bx.kp G hS) rfl rfl) ?_
 have aA := ((((f.gr Y3).kz K6).kz K7).gr G8)
 have aB := ((((g.gr Y3).kz K6).kz K7).gr G8)
 have aC := ((((p.gr Y3).kz K6).kz K7).gr G8)
 obtain ⟨x8, aD, hm⟩ := bnd hm
 refine qz [] rfl (eC Xt5 rfl (Qq6 aD aA aB aC)) ⟨fun _ => tk0, trivial⟩ ?_
 rintro _ w9 ⟨rfl, G9⟩
 refine kG G9 ?_
 have aE := ((Kp.refl ([]) w8).gr G9)
 refine qh 0 rfl rfl aE (fun w hS => Qmu (cf := kb) (a := x8) (b := p3.Mac) Qqd rfl rfl rfl rfl (fun h => Qng h))<|Qa1<|Qam rfl (fun c4 => ?_) (fun c4 => ?_)
 · replace hm := iT c4 hm
   refine qs 1 rfl<|qm rfl<|qb ?_
   have Y6 := Gr.trans G8 G9
   have aF := ((((hbp2.gr Y3).kz K6).kz K7).gr Y6)
   have aG := ((A.kz K7).gr Y6)
   cases hm
   refine ⟨_, _, rfl, Qb1 rfl (Qab rfl), ?_⟩
   exact ⟨rfl, aF, aG⟩
 replace hm := iF c4 hm
 refine qu<|qs 7 rfl<|qm rfl<|qv rfl (Qa0 Qqo rfl) ?_
 have aH := (G.gr G9)
 refine qv rfl (Qa2 (v := .int .i64 p3.Epoch) Qaw rfl aH rfl) ?_
 have aI := (S.gr G9)
 refine qv rfl (Qa4 Qak rfl aI rfl)<|qv rfl (Qas (cs := Qbl.cs (Qbl.mk true p3.Epoch a6)) Xnz rfl (Qk4 rfl rfl rfl (Qk4 rfl rfl rfl (Qk4 rfl rfl rfl (by kernel_rfl)))))<|qv rfl (Qfg rfl rfl) ?_
 have Y7 := Gr.trans G8 G9
 have aJ := ((((hbp2.gr Y3).kz K6).kz K7).gr Y7)
 refine qe rfl (Xo8 (sz := 18) (o := 5) (q := 0) (l := [p2.Slots.a0, p2.Slots.a1]) (c := Qbl.cs) (a' := (Qbl.mk true p3.Epoch a6)) (vs := Qbl.cs (Qbl.mk true p3.Epoch a6)) (cs' := Qad.cs (Qad.mk p2.Secret p2.Ahead (Qbh.mk (if x1 = 0 then (Qbl.mk true p3.Epoch a6) else p2.Slots.a0) (if x1 = 0 then p2.Slots.a1 else (Qbl.mk true p3.Epoch a6)))) vp2_1) (Qpk).siz rfl rfl rfl rfl rfl aJ (Qji _ (fun _ => rfl) (fun _ => rfl)) rfl rfl n (by first | rfl | omega) rfl rfl (Xvf n) rfl) ?_
 rintro _ a9 ⟨T, aK⟩
 refine qd 1 rfl<|qm rfl<|Qa1<|Qag ?_
 have aL := (((A.kz K7).gr Y7).md aK)
 cases hm
 refine ⟨_, _, rfl, Qb1 rfl (Qab rfl), ?_⟩
 exact ⟨rfl, T, aL⟩
theorem Xad {p0 p1 p2 p3 vp1_1 zp1_1 gp1_1 op1_1 vp2_2 zp2_2 gp2_2 op2_2 vp2_4 zp2_4 gp2_4 op2_4 vp2_39 zp2_39 gp2_39 op2_39 r} (hm : Qtr p0 p1 p2 p3 = some r) {w : World} (aL : Rd w zp1_1 gp1_1 op1_1 18 vp1_1 (p1.Secret.Labels.map Qb8.cs)) (j : Rd w zp2_2 gp2_2 op2_2 18 vp2_2 (p2.Head.Items.map Qcc.cs)) (k : Rd w zp2_4 gp2_4 op2_4 2 vp2_4 (p2.Head.Points.map Qah.cs)) (c : Rd w zp2_39 gp2_39 op2_39 1 vp2_39 (p2.Data.map bvc)) :
    Calls Tryz.prog 85 [.agg (Qfr.cs p0).toArray, .agg (Qad.cs p1 vp1_1).toArray, .agg (Qai.cs p2 vp2_2 vp2_4 vp2_39).toArray, .int .i64 p3].toArray w fun e w' => ∃ v, e = .returned v ∧ (∃ ur0_s zr0_s gr0_s, v = .tuple [ur0_s, .int .i64 r.2].toArray ∧ Own w' zr0_s gr0_s 5 1 ur0_s (r.1.map bvc) ∧ Hdn (zr0_s = 0 ∨ w.heap.size ≤ gr0_s) ∧ Gr w w') := by
 have E := j.lth
 have F := k.lth
 have p := c.lth
 unfold Qtr at hm
 refine Qa5 74 Tryz.func85 rfl rfl rfl<|qs 5 rfl<|qe rfl (Qaq (cs := Qfr.cs p0) rfl rfl) ?_
 rintro _ w1 ⟨b1, rfl, bm, ah, G1⟩
 have bA := ah.lt
 refine qe rfl (Qaq (cs := Qad.cs p1 vp1_1) rfl rfl) ?_
 rintro _ w2 ⟨b2, rfl, bo, ai, G2⟩
 have bB := ai.lt
 refine qe rfl (Qaq (cs := Qai.cs p2 vp2_2 vp2_4 vp2_39) rfl rfl) ?_
 rintro _ w3 ⟨b3, rfl, bp, G, G3⟩
 have bq := G.lt
 refine qm rfl<|qm rfl<|qd 10 rfl ?_
 have Y1 := Gr.trans G2 G3
 have aj := (ah.gr Y1)
 refine qv rfl (Qa4 Qht rfl aj rfl)<|qm rfl<|qv rfl (Qa0 Qy3 rfl)<|qv rfl (Qa2 (v := bv p2.Low) Qcu rfl G rfl) ?_
 obtain ⟨x1, aM, hm⟩ := bnd hm
 refine qe rfl (eC Xqd rfl (Qrg aM)) ?_
 rintro _ w4 ⟨rfl, G4⟩
 have bC := G4.size
 refine qm rfl<|qm rfl<|qm rfl<|qm rfl<|qm rfl<|Qa1<|Qa3 ?_
 refine qs 2 rfl<|qm rfl<|qv rfl (Qci rfl)<|Qa1<|Qam rfl (fun c1 => ?_) (fun c1 => ?_)
 · replace hm := Qc8 c1 hm
   refine qs 2 rfl<|qm rfl<|qm rfl<|Qa1<|Qag<|Qb2 ?_
   have Y2 := Gr.trans (Gr.trans G1 Y1) G4
   have aN := ((Gr.refl w).trans Y2)
   cases hm
   refine ⟨_, _, rfl, Qbk rfl (Qab rfl) (Qab rfl), ?_⟩
   exact ⟨(.slice none 0 0), 0, 0, rfl, (Qax _ 0 5 1), ⟨.inl rfl⟩, aN⟩
 replace hm := Qc7 c1 hm
 refine qu<|qs 8 rfl<|qm rfl<|qv rfl (Qa0 Qje rfl) ?_
 have ak := (aj.gr G4)
 refine qv rfl (Qa2 (v := .int .i64 p0.Epoch) Qaw rfl ak rfl)<|qv rfl (Qa0 Qiu rfl)<|qv rfl (Qa2 (v := .int .i64 p0.Word) Qaw rfl ak rfl) ?_
 obtain ⟨x2, aO, hm⟩ := bnd hm
 refine qv rfl (Qo6 (a := p0.Epoch) (b := p0.Word) rfl rfl aO) ?_
 obtain ⟨x3, aP, hm⟩ := bnd hm
 refine qv rfl (Qo6 (a := x1.1) (b := x2) rfl rfl aP)<|qm rfl<|qd 7 rfl<|qm rfl ?_
 obtain ⟨x4, aQ, hm⟩ := bnd hm
 refine qv rfl (Qjv (a := x3) (b := 2) rfl rfl aQ)<|qv rfl (Qa0 Xbs rfl) ?_
 obtain ⟨y5, al, hm⟩ := bnd hm
 refine qv rfl (Xl4 (l := [p1.Slots.a0, p1.Slots.a1]) (i := x4) Tryz.underlying76 (Qpk).siz rfl rfl al rfl) ?_
 have Y3 := Gr.trans G3 G4
 have aR := (ai.gr Y3)
 refine qv rfl (Qhs Qpk rfl (Xe9 (o := 5) (sz := 18) (xs := [p1.Slots.a0, p1.Slots.a1].map Qbl.cs) (m := 2) (cap := 2) aR (Qji _ (fun _ => rfl) (fun _ => rfl)) rfl rfl) al (by first | rfl | omega))<|qe rfl (Qa8 (cs := Qbl.cs (Qbl.mk false 0 k0)) Xnq rfl) ?_
 rintro _ w5 ⟨b5, rfl, br, am, G5⟩
 have bs := am.lt
 refine qe rfl (Qaj Qpk rfl rfl rfl am rfl rfl) ?_
 rintro _ w6 ⟨Q, M6⟩
 have bD := M6.size
 refine Qa1<|Qa3 ?_
 have Y4 := Gr.trans (Gr.trans (Gr.trans G1 Y1) G4) G5
 have an := (((Gr.refl w).trans Y4).md M6)
 refine qj (β := Bool) (rg 39 9) (fun a6 => [(47, .bool a6)]) (fun a6 wr => (Qm9 p2 x1 y5 a6 = some r) ∧ Kz [] w6 wr) ?_ ?_
 · refine qg 9 rfl<|qv rfl (Qa0 Qvj rfl)<|qv rfl (Qa2 (v := .bool y5.Full) Xbc rfl Q rfl)<|qv rfl (Qci rfl)<|qp rfl (Qac rfl) (fun c5 => ?_) (fun c5 => ?_)
   · replace hm := Qc8 c5 hm
     refine qk rfl<|qk rfl<|qk rfl<|qk rfl<|qm rfl<|Qa9 ?_
     exact ⟨rfl, true, sbq, hm, kz0⟩
   replace hm := Qc7 c5 hm
   refine qv rfl (Qa0 Qyu rfl)<|qv rfl (Qa2 (v := .int .i64 y5.Epoch) Qaw rfl Q rfl)<|qm rfl<|qv rfl (Qc2 (a := y5.Epoch) (b := x3) rfl rfl)<|qm rfl<|Qa9 ?_
   exact ⟨rfl, (decide (y5.Epoch ≠ x3)), sbq, hm, kz0⟩
 clear hm; rintro a6 w7 ⟨hm, K7⟩
 have bE := K7.size
 unfold Qm9 at hm
 refine Qam rfl (fun c2 => ?_) (fun c2 => ?_)
 · replace hm := Qc8 c2 hm
   refine qs 2 rfl<|qm rfl<|qm rfl<|Qa1<|Qag<|Qb2 ?_
   have aS := (an.kz K7)
   cases hm
   refine ⟨_, _, rfl, Qbk rfl (Qab rfl) (Qab rfl), ?_⟩
   exact ⟨(.slice none 0 0), 0, 0, rfl, (Qax _ 0 5 1), ⟨.inl rfl⟩, aS⟩
 replace hm := Qc7 c2 hm
 refine qu<|qs 6 rfl<|qv rfl (Qa0 Xmr rfl) ?_
 have aT := (Q.kz K7)
 refine qv rfl (Qb6 (vs := kb y5.Key) Qak rfl aT rfl rfl)<|qm rfl ?_
 obtain ⟨x7, aU, hm⟩ := bnd hm
 refine qe rfl (eC Xjq rfl (Qn5 aU)) ?_
 rintro _ w8 ⟨rfl, G8⟩
 have bF := G8.size
 refine qe rfl (Qa8 (cs := kb k0) Qeo rfl) ?_
 rintro _ w9 ⟨b9, rfl, bu, ao, G9⟩
 have bw := ao.lt
 refine qe rfl (Qaj Qak rfl rfl rfl ao rfl rfl) ?_
 rintro _ ap ⟨P, d⟩
 have bG := d.size
 refine Qa1 ?_
 have Y5 := Gr.trans G8 G9
 have R := (((an.kz K7).trans Y5).md d)
 refine qj (β := W2 × Int × Nat) ([15, 16] ++ rg 52 7) (fun ⟨a9, D, bq8⟩ => [(15, .pointer (some ⟨bq8, 0, none⟩)), (16, .int .i64 D)]) (fun ⟨a9, D, bq8⟩ wr => (Qov p2 x7 a9 D = some r) ∧ Bx wr bq8 23 (kb a9) ∧ ap.heap.size ≤ bq8 ∧ Kz [] ap wr) ?_ ?_
 · refine dw [([])] [] (.fork [(0,10),(1,10)] (.fork [(2,0)] (.leaf [(3,0),(4,10),(5,10),(6,10),(7,0),(8,0),(9,10)]) (.leaf [(7,0),(3,0),(4,10),(5,10),(6,10),(8,0),(9,10)])) (.leaf [(7,0),(2,0),(3,0),(4,10),(5,10),(6,10),(8,0),(9,10)])) ?_
   intro S g bx
   refine Qbc ?_
   have aV := (P.gr g)
   refine dh 0 rfl rfl (fun w hS => Qa4 Qak rfl (Bx.kp aV hS) rfl) ?_
   have Y6 := Gr.trans G4 G5
   have aW := ((((((G.gr Y6).md M6).kz K7).gr Y5).md d).gr g)
   refine dh 0 rfl rfl (fun w hS => Qa4 Qcr rfl (Bx.kp aW hS) rfl)<|Qbt ?_ ?_
   · refine Qbc ?_
     have aX := ((((((j.gr Y4).md M6 (Qau E)).kz K7).gr Y5).md d (Qau E)).gr g)
     have aY := ((((((k.gr Y4).md M6 (Qau F)).kz K7).gr Y5).md d (Qau F)).gr g)
     have aZ := ((((((c.gr Y4).md M6 (Qau p)).kz K7).gr Y5).md d (Qau p)).gr g)
     obtain ⟨bH, aq, hm⟩ := bnd hm
     refine qz [] rfl (eC Xf1 rfl (Qjj aq aX aY aZ)) ⟨fun _ => tk0, trivial⟩ ?_
     rintro Z bI ⟨_, aa, ab, rfl, f, ac, q⟩
     have bJ := q.size
     refine kG q<|Qbt ?_ ?_
     · refine Qal ?_
       obtain ⟨ar, au, hm⟩ := bnd hm
       refine qz [] rfl (eC Qzi rfl (Qgt au (Own.rd f))) ⟨fun _ => tk0, trivial⟩ ?_
       rintro _ bK ⟨rfl, H⟩
       have bL := H.size
       refine kG H ?_
       have I := (((Kp.refl ([]) S).gr q).gr H)
       refine dn 0 rfl rfl I<|dn 0 rfl rfl I<|dn 0 rfl rfl I<|qz [] rfl (Qa8 (cs := kb k0) Qeo rfl) ⟨fun _ => tk0, trivial⟩ ?_
       rintro _ bM ⟨av, rfl, a2, aw, T⟩
       refine kG T<|qz [(1, av)] rfl (Qaj Qak rfl rfl rfl aw rfl rfl) ⟨fun _ => tk0, trivial⟩ ?_
       rintro _ bN ⟨ax, U⟩
       refine kM U ?_
       have a3 := ((I.gr T).md U)
       refine dn 0 rfl rfl a3<|Qa9 ?_
       exact ⟨rfl, ⟨ar.1, ar.2, av⟩, sbq, hm, ax, (by omega), (((((kz0.gr g).gr q).gr H).gr T).md U)⟩
     refine Qal<|qz [] rfl (Qa8 (cs := kb k0) Qeo rfl) ⟨fun _ => tk0, trivial⟩ ?_
     rintro _ bO ⟨ay, rfl, a4, az, J⟩
     refine kG J ?_
     have a5 := (f.gr J)
     obtain ⟨aA, aB, hm⟩ := bnd hm
     refine qz [] rfl (eC Qzi rfl (Qgt aB (Own.rd a5))) ⟨fun _ => tk0, trivial⟩ ?_
     rintro _ bP ⟨rfl, K⟩
     refine kG K ?_
     have L := ((((Kp.refl ([]) S).gr q).gr J).gr K)
     refine dn 0 rfl rfl L<|dn 0 rfl rfl L<|dn 0 rfl rfl L ?_
     have a7 := (az.gr K)
     refine qz [(1, ay)] rfl (Qaj Qak rfl rfl rfl a7 rfl rfl) ⟨fun _ => tk0, trivial⟩ ?_
     rintro _ bQ ⟨aC, V⟩
     refine kM V ?_
     have a8 := (L.md V)
     refine dn 0 rfl rfl a8<|Qa9 ?_
     exact ⟨rfl, ⟨aA.1, aA.2, ay⟩, sbq, hm, aC, (by omega), (((((kz0.gr g).gr q).gr J).gr K).md V)⟩
   refine Qal<|qz [] rfl (Qa8 (cs := kb k0) Qeo rfl) ⟨fun _ => tk0, trivial⟩ ?_
   rintro _ bR ⟨aD, rfl, ba, aE, W⟩
   refine kG W ?_
   have Y7 := Gr.trans g W
   have bb := ((((((j.gr Y4).md M6 (Qau E)).kz K7).gr Y5).md d (Qau E)).gr Y7)
   have bc := ((((((k.gr Y4).md M6 (Qau F)).kz K7).gr Y5).md d (Qau F)).gr Y7)
   have bd := ((((((c.gr Y4).md M6 (Qau p)).kz K7).gr Y5).md d (Qau p)).gr Y7)
   obtain ⟨bS, aF, hm⟩ := bnd hm
   refine qz [] rfl (eC Xf1 rfl (Qjj aF bb bc bd)) ⟨fun _ => tk0, trivial⟩ ?_
   rintro ad bT ⟨_, ae, af, rfl, s, ag, M⟩
   refine kG M ?_
   obtain ⟨aG, aH, hm⟩ := bnd hm
   refine qz [] rfl (eC Qzi rfl (Qgt aH (Own.rd s))) ⟨fun _ => tk0, trivial⟩ ?_
   rintro _ bU ⟨rfl, N⟩
   refine kG N ?_
   have O := ((((Kp.refl ([]) S).gr W).gr M).gr N)
   refine dn 0 rfl rfl O<|dn 0 rfl rfl O<|dn 0 rfl rfl O ?_
   have be := ((aE.gr M).gr N)
   refine qz [(1, aD)] rfl (Qaj Qak rfl rfl rfl be rfl rfl) ⟨fun _ => tk0, trivial⟩ ?_
   rintro _ bV ⟨aI, X⟩
   refine kM X ?_
   have bf := (O.md X)
   refine dn 0 rfl rfl bf<|Qa9 ?_
   exact ⟨rfl, ⟨aG.1, aG.2, aD⟩, sbq, hm, aI, (by omega), ((((kz0.gr Y7).gr M).gr N).md X)⟩
 clear hm; rintro ⟨a9, D, bq8⟩ bW ⟨hm, n, aK, t⟩
 have bz := n.lt
 unfold Qov at hm
 refine Qa3<|qs 2 rfl<|qm rfl<|qv rfl (Qc2 (a := D) (b := 0) rfl rfl)<|Qa1<|Qam rfl (fun c3 => ?_) (fun c3 => ?_)
 · replace hm := iT c3 hm
   refine qs 3 rfl<|qm rfl<|qm rfl<|qm rfl<|Qa1<|Qag ?_
   refine Qb2 ?_
   have bg := (R.kz t)
   cases hm
   refine ⟨_, _, rfl, Qbk rfl (Qab rfl) (Qab rfl), ?_⟩
   exact ⟨(.slice none 0 0), 0, 0, rfl, (Qax _ 0 5 1), ⟨.inl rfl⟩, bg⟩
 replace hm := iF c3 hm
 refine qu<|Qa3<|qs 4 rfl<|qv rfl (Qa4 Qak rfl n rfl)<|qv rfl (Qa0 Qye rfl) ?_
 have Y8 := Gr.trans G4 G5
 have Y := ((((((G.gr Y8).md M6).kz K7).gr Y5).md d).kz t)
 refine qv rfl (Qb6 (vs := kb p2.Mac) Qak rfl Y rfl rfl)<|qv rfl (Qmu (cf := kb) (a := a9) (b := p2.Mac) Qqd rfl rfl rfl rfl (fun h => Qng h))<|Qa1<|Qam rfl (fun c4 => ?_) (fun c4 => ?_)
 · replace hm := iT c4 hm
   refine qs 2 rfl<|qm rfl<|qm rfl<|Qa1<|Qag<|Qb2 ?_
   have bh := (R.kz t)
   cases hm
   refine ⟨_, _, rfl, Qbk rfl (Qab rfl) (Qab rfl), ?_⟩
   exact ⟨(.slice none 0 0), 0, 0, rfl, (Qax _ 0 5 1), ⟨.inl rfl⟩, bh⟩
 replace hm := iF c4 hm
 refine qu<|qs 10 rfl ?_
 have bi := (P.kz t)
 refine qv rfl (Qa4 Qak rfl bi rfl)<|qv rfl (Qa0 Xc1 rfl)<|qv rfl (Qa2 (v := wv p2.Number) Qb5 rfl Y rfl)<|qv rfl (Qa0 Qrp rfl)<|qv rfl (Qa2 (v := vp2_39) Qmm rfl Y rfl) ?_
 have bj := ((((((c.gr Y4).md M6 (Qau p)).kz K7).gr Y5).md d (Qau p)).kz t)
 obtain ⟨bX, aJ, hm⟩ := bnd hm
 refine qe rfl (eC Xse rfl (Qqm aJ bj)) ?_
 rintro _ bY ⟨u, y, z, rfl, B, C, bk⟩
 refine qm rfl<|qm rfl<|qm rfl<|qm rfl<|Qa1<|Qag ?_
 have bl := ((R.kz t).trans bk)
 cases hm
 refine ⟨_, _, rfl, Qbk rfl (Qab rfl) (Qab rfl), ?_⟩
 exact ⟨u, y, z, rfl, B, ⟨(Qbs (A := (fun x => w.heap.size ≤ x)) C)⟩, bl⟩
theorem Qez {p0 p1 p2 p3 p4 vp2_1 zp2_1 gp2_1 op2_1 vp3_2 zp3_2 gp3_2 op3_2 vp3_4 zp3_4 gp3_4 op3_4 vp3_39 zp3_39 gp3_39 op3_39 r} (hm : Qmd p0 p1 p2 p3 p4 = some r) {w : World} (N : Rd w zp2_1 gp2_1 op2_1 18 vp2_1 (p2.Secret.Labels.map Qb8.cs)) (m : Rd w zp3_2 gp3_2 op3_2 18 vp3_2 (p3.Head.Items.map Qcc.cs)) (n : Rd w zp3_4 gp3_4 op3_4 2 vp3_4 (p3.Head.Points.map Qah.cs)) (i : Rd w zp3_39 gp3_39 op3_39 1 vp3_39 (p3.Data.map bvc)) :
    Calls Tryz.prog 37 [.agg (Qa7.cs p0).toArray, .agg (Qfr.cs p1).toArray, .agg (Qad.cs p2 vp2_1).toArray, .agg (Qai.cs p3 vp3_2 vp3_4 vp3_39).toArray, .int .i64 p4].toArray w fun e w' => ∃ v, e = .returned v ∧ (∃ ur0_1 zr0_1 gr0_1 ur1_s zr1_s gr1_s, v = .tuple [.agg (Qad.cs r.1 ur0_1).toArray, ur1_s, .int .i64 r.2.2].toArray ∧ Own w' zr0_1 gr0_1 92 18 ur0_1 (r.1.Secret.Labels.map Qb8.cs) ∧ Hdn (zr0_1 = 0 ∨ w.heap.size ≤ gr0_1) ∧ Own w' zr1_s gr1_s 5 1 ur1_s (r.2.1.map bvc) ∧ Hdn (zr1_s = 0 ∨ w.heap.size ≤ gr1_s) ∧ Hdn (zr1_s = 0 ∨ zr0_1 = 0 ∨ gr1_s ≠ gr0_1) ∧ Gr w w') := by
 have O := m.lth
 have P := n.lth
 have Q := i.lth
 unfold Qmd at hm
 refine Qa5 68 Tryz.func37 rfl rfl rfl<|qs 7 rfl<|qe rfl (Qaq (cs := Qa7.cs p0) rfl rfl) ?_
 rintro _ w1 ⟨b1, rfl, a4, V, G1⟩
 have bg := V.lt
 refine qe rfl (Qaq (cs := Qfr.cs p1) rfl rfl) ?_
 rintro _ w2 ⟨b2, rfl, a7, W, G2⟩
 have bh := W.lt
 refine qe rfl (Qaq (cs := Qad.cs p2 vp2_1) rfl rfl) ?_
 rintro _ w3 ⟨b3, rfl, ba, X, G3⟩
 have bb := X.lt
 refine qe rfl (Qaq (cs := Qai.cs p3 vp3_2 vp3_4 vp3_39) rfl rfl) ?_
 rintro _ w4 ⟨b4, rfl, bc, R, G4⟩
 have bd := R.lt
 refine qe rfl (Qa8 (cs := Qad.cs (Qad.mk (Qae.mk 0 [] (Qah.mk 0#64 0#64)) 0 (Qbh.mk (Qbl.mk false 0 k0) (Qbl.mk false 0 k0))) (.slice none 0 0)) Qp5 rfl) ?_
 rintro _ w5 ⟨b5, rfl, be, F, G5⟩
 have bf := F.lt
 refine qm rfl<|qm rfl<|qd 5 rfl ?_
 have Y1 := Gr.trans (Gr.trans (Gr.trans G2 G3) G4) G5
 have Y := (V.gr Y1)
 refine qv rfl (Qa4 Qcn rfl Y rfl) ?_
 have Y2 := Gr.trans (Gr.trans G3 G4) G5
 have S := (W.gr Y2)
 refine qv rfl (Qa4 Qht rfl S rfl) ?_
 have Y3 := Gr.trans G4 G5
 have Z := (X.gr Y3)
 refine qv rfl (Qa4 Qdv rfl Z rfl) ?_
 have Y4 := Gr.trans G1 Y1
 have aa := (N.gr Y4)
 obtain ⟨x1, ap, hm⟩ := bnd hm
 refine qe rfl (eC Xti rfl (Qyl ap aa)) ?_
 rintro _ w6 ⟨rfl, G6⟩
 have bi := G6.size
 refine qm rfl<|Qa1 ?_
 have Y5 := Gr.trans Y4 G6
 have aq := ((Gr.refl w).trans Y5)
 refine qj (β := Int) [13, 19, 20, 21, 22] (fun a2 => [(13, .int .i64 a2)]) (fun a2 wr => (Qm8 p0 p1 p2 p3 p4 a2 = some r) ∧ Kz [] w6 wr) ?_ ?_
 · refine qs 2 rfl<|qm rfl<|qv rfl (Qeh (a := x1) (b := 0) rfl rfl)<|Qa1<|cnF rfl (fun c6 => ?_) (fun c6 => ?_)
   · replace hm := iF c6 hm
     refine Qc4 ?_
     exact ⟨rfl, x1, sbq, hm, kz0⟩
   replace hm := iT c6 hm
   refine qg 3 rfl ?_
   have Y6 := Gr.trans G5 G6
   have ar := (R.gr Y6)
   refine qv rfl (Qa4 Qcr rfl ar rfl) ?_
   have au := (m.gr Y5)
   have av := (n.gr Y5)
   have aw := (i.gr Y5)
   obtain ⟨ax, ab, hm⟩ := bnd hm
   refine qe rfl (eC Xu9 rfl (Qs6 ab au av aw)) ?_
   rintro _ bj ⟨rfl, ay⟩
   refine qm rfl<|Qa9 ?_
   exact ⟨rfl, ax, sbq, hm, (kz0.gr ay)⟩
 clear hm; rintro a2 w7 ⟨hm, K7⟩
 have bk := K7.size
 unfold Qm8 at hm
 have ac := (aq.kz K7)
 refine qj (β := Int) ([13] ++ rg 23 7) (fun a3 => [(13, .int .i64 a3)]) (fun a3 wr => (Qm3 p0 p1 p2 p3 p4 a3 = some r) ∧ Kz [] w7 wr) ?_ ?_
 · refine qj (β := Bool) (rg 23 7) (fun G => [(29, .bool G)]) (fun G wr => (Qm7 p0 p1 p2 p3 p4 a2 G = some r) ∧ Kz [] w7 wr) ?_ ?_
   · refine qg 7 rfl<|qm rfl<|qv rfl (Qeh (a := a2) (b := 0) rfl rfl)<|qpF rfl (Qac rfl) (fun c5 => ?_) (fun c5 => ?_)
     · replace hm := iF c5 hm
       refine qk rfl<|qk rfl<|qk rfl<|qm rfl<|Qa9 ?_
       exact ⟨rfl, false, sbq, hm, kz0⟩
     replace hm := iT c5 hm
     refine qm rfl ?_
     obtain ⟨az, ad, hm⟩ := bnd hm
     refine qe rfl (eC Xb4 rfl (Qf3 ad)) ?_
     rintro _ bl ⟨rfl, aA⟩
     refine qv rfl (Qci rfl)<|qm rfl<|Qa9 ?_
     exact ⟨rfl, (!az), sbq, hm, (kz0.gr aA)⟩
   clear hm; rintro G bm ⟨hm, ae⟩
   unfold Qm7 at hm
   refine cnF rfl (fun c4 => ?_) (fun c4 => ?_)
   · replace hm := Qc7 c4 hm
     refine Qc4 ?_
     exact ⟨rfl, a2, sbq, hm, (kz0.kz ae)⟩
   replace hm := Qc8 c4 hm
   refine qg 1 rfl<|qm rfl<|Qa9 ?_
   exact ⟨rfl, 2, sbq, hm, (kz0.kz ae)⟩
 clear hm; rintro a3 w8 ⟨hm, K8⟩
 have bo := K8.size
 unfold Qm3 at hm
 refine Qa3<|qs 2 rfl<|qm rfl<|qv rfl (Qc2 (a := a3) (b := 0) rfl rfl)<|Qa1<|Qam rfl (fun c1 => ?_) (fun c1 => ?_)
 · replace hm := iT c1 hm
   refine qs 5 rfl<|qv rfl (Qas (cs := Qad.cs (Qad.mk (Qae.mk 0 [] (Qah.mk 0#64 0#64)) 0 (Qbh.mk (Qbl.mk false 0 k0) (Qbl.mk false 0 k0))) (.slice none 0 0)) Xew rfl (by kernel_rfl))<|qm rfl ?_
   have aB := (((F.gr G6).kz K7).kz K8)
   refine qe rfl (Qaj Qdv rfl rfl (Qad.cs_ones _ _ rfl) aB rfl rfl) ?_
   rintro _ w9 ⟨aC, M9⟩
   refine qm rfl<|qm rfl<|qb ?_
   have aD := ((ac.kz K8).md M9)
   cases hm
   refine ⟨_, _, rfl, Xoe rfl (Qap Qdv rfl aC rfl) (Qab rfl) (Qab rfl), ?_⟩
   exact ⟨(.slice none 0 0), 0, 0, (.slice none 0 0), 0, 0, rfl, (Qax _ 0 92 18), ⟨.inl rfl⟩, (Qax _ 0 5 1), ⟨.inl rfl⟩, ⟨(.inl rfl)⟩, aD⟩
 replace hm := iF c1 hm
 refine qu<|qs 7 rfl<|qv rfl (Qa0 Qvv rfl)<|qv rfl (Qa0 Qtw rfl) ?_
 have af := (((Z.gr G6).kz K7).kz K8)
 refine qv rfl (Qa2 (v := vp2_1) Qvg rfl af rfl) ?_
 have aE := (((aa.gr G6).kz K7).kz K8)
 obtain ⟨x4, aF, hm⟩ := bnd hm
 refine qe rfl (eC Xtm rfl (Qrz aF aE)) ?_
 rintro h bp ⟨_, j, l, rfl, d, c, g⟩
 have bq := g.size
 have ag := d.lth
 refine qv rfl (Qa0 Qvv rfl)<|qv rfl (Qa0 Qtw rfl) ?_
 have aG := (af.gr g)
 refine qe rfl (Qe9 (cs' := Qad.cs (Qad.mk (Qae.mk p2.Secret.Receiver x4 p2.Secret.Share) p2.Ahead p2.Slots) h) (Qvg).siz rfl rfl (Own.oneB d) aG rfl rfl) ?_
 rintro _ H ⟨t, f⟩
 have br := f.size
 refine qd 1 rfl<|qm rfl<|Qa1 ?_
 have ah := (((ac.kz K8).trans g).md f)
 refine qj (β := Int × List (BitVec 8) × Int × Qah × Int × Qbh × Value × Nat × Nat) ([13, 14] ++ rg 40 22) (fun ⟨a5, a6, a8, a9, I, J, vy7, zy7, gy7⟩ => [(13, .int .i64 a5), (14, vy7)]) (fun ⟨a5, a6, a8, a9, I, J, vy7, zy7, gy7⟩ wr => (Qls x4 a5 a6 a8 a9 I J = some r) ∧ Own wr zy7 gy7 5 1 vy7 (a6.map bvc) ∧ Hdn (zy7 = 0 ∨ H.heap.size ≤ gy7) ∧ Bx wr b3 78 (Qad.cs (Qad.mk (Qae.mk a8 x4 a9) I J) h) ∧ Kz [(1, b3)] H wr) ?_ ?_
 · refine qs 3 rfl<|qv rfl (Qa0 Qyh rfl) ?_
   have Y7 := Gr.trans G5 G6
   have T := (((((R.gr Y7).kz K7).kz K8).gr g).md f)
   refine qv rfl (Qa2 (v := bv p3.Kind) Qcu rfl T rfl)<|qv rfl (Qj9 (p := p3.Kind) (q := 1#8) rfl rfl)<|Qa1<|Qam rfl (fun c3 => ?_) (fun c3 => ?_)
   · replace hm := iT c3 hm
     refine qg 9 rfl ?_
     have aH := (((((Y.gr G6).kz K7).kz K8).gr g).md f)
     refine qv rfl (Qa4 Qcn rfl aH rfl) ?_
     have aI := (((((S.gr G6).kz K7).kz K8).gr g).md f)
     refine qv rfl (Qa4 Qht rfl aI rfl)<|qv rfl (Qa4 Qcr rfl T rfl)<|qm rfl<|qv rfl (Qa0 Qz7 rfl)<|qv rfl (Qa2 (v := .int .i64 p2.Ahead) Qaw rfl t rfl)<|qv rfl (Qce (k := .i64) (a := p4) (b := p2.Ahead) rfl rfl) ?_
     have aJ := (d.md f (Qd7 c))
     have aK := (((((m.gr Y5).kz K7).kz K8).gr g).md f (Qau O))
     have aL := (((((n.gr Y5).kz K7).kz K8).gr g).md f (Qau P))
     have aM := (((((i.gr Y5).kz K7).kz K8).gr g).md f (Qau Q))
     obtain ⟨D, ai, hm⟩ := bnd hm
     refine qe rfl (eC Xud rfl (Qyf ai t (Own.rd aJ) aK aL aM ⟨(tk1 (Qd7 (b := b3) c))⟩ ⟨(tk1 (Qau (b := b3) O))⟩ ⟨(tk1 (Qau (b := b3) P))⟩ ⟨(tk1 (Qau (b := b3) Q))⟩)) ?_
     rintro _ bs ⟨rfl, K, aN⟩
     refine qm rfl<|Qa9 ?_
     exact ⟨rfl, ⟨D.1, [], D.2.Secret.Receiver, D.2.Secret.Share, D.2.Ahead, D.2.Slots, (.slice none 0 0), 0, 0⟩, sbq, hm, (Qax _ 0 5 1), ⟨(.inl rfl)⟩, K, (Kz.kz (Kz.refl _ _) aN)⟩
   replace hm := iF c3 hm
   refine qg 13 rfl ?_
   have aO := (((((S.gr G6).kz K7).kz K8).gr g).md f)
   refine qv rfl (Qa4 Qht rfl aO rfl)<|qv rfl (Qa4 Qdv rfl t rfl)<|qv rfl (Qa4 Qcr rfl T rfl)<|qm rfl<|qv rfl (Qa0 Qz7 rfl)<|qv rfl (Qa2 (v := .int .i64 p2.Ahead) Qaw rfl t rfl)<|qv rfl (Qce (k := .i64) (a := p4) (b := p2.Ahead) rfl rfl) ?_
   have aP := (d.md f (Qd7 c))
   have aQ := (((((m.gr Y5).kz K7).kz K8).gr g).md f (Qau O))
   have aR := (((((n.gr Y5).kz K7).kz K8).gr g).md f (Qau P))
   have aS := (((((i.gr Y5).kz K7).kz K8).gr g).md f (Qau Q))
   obtain ⟨aj, ak, hm⟩ := bnd hm
   refine qe rfl (eC Xtj rfl (Xad ak (Own.rd aP) aQ aR aS)) ?_
   rintro _ aT ⟨u, y, z, rfl, B, C, al⟩
   refine qm rfl<|qm rfl<|qm rfl<|qm rfl<|qm rfl<|Qa9 ?_
   have K_62 : Kz [(1, b3)] H aT := (Kz.gr (Kz.refl _ _) al)
   have aU := (t.gr al)
   exact ⟨rfl, ⟨aj.2, aj.1, p2.Secret.Receiver, p2.Secret.Share, p2.Ahead, p2.Slots, u, y, z⟩, sbq, hm, B, ⟨(Qbs (A := (fun x => H.heap.size ≤ x)) C)⟩, aU, K_62⟩
 clear hm; rintro ⟨a5, a6, a8, a9, I, J, vy7, zy7, gy7⟩ bu ⟨hm, L, s, M, E⟩
 unfold Qls at hm
 refine Qa3<|qs 2 rfl<|qm rfl<|qv rfl (Qc2 (a := a5) (b := 0) rfl rfl)<|Qa1<|Qam rfl (fun c2 => ?_) (fun c2 => ?_)
 · replace hm := iT c2 hm
   refine qs 5 rfl<|qv rfl (Qas (cs := Qad.cs (Qad.mk (Qae.mk 0 [] (Qah.mk 0#64 0#64)) 0 (Qbh.mk (Qbl.mk false 0 k0) (Qbl.mk false 0 k0))) (.slice none 0 0)) Xew rfl (by kernel_rfl))<|qm rfl ?_
   have aV := ((((((F.gr G6).kz K7).kz K8).gr g).md f).kz E)
   refine qe rfl (Qaj Qdv rfl rfl (Qad.cs_ones _ _ rfl) aV rfl rfl) ?_
   rintro _ bw ⟨am, aW⟩
   refine qm rfl<|qm rfl<|qb ?_
   have aX := ((ah.kz E).md aW)
   cases hm
   refine ⟨_, _, rfl, Xoe rfl (Qap Qdv rfl am rfl) (Qab rfl) (Qab rfl), ?_⟩
   exact ⟨(.slice none 0 0), 0, 0, (.slice none 0 0), 0, 0, rfl, (Qax _ 0 92 18), ⟨.inl rfl⟩, (Qax _ 0 5 1), ⟨.inl rfl⟩, ⟨(.inl rfl)⟩, aX⟩
 replace hm := iF c2 hm
 refine qu<|qs 5 rfl<|qv rfl (Qa4 Qdv rfl M rfl)<|qm rfl ?_
 have aY := ((((((F.gr G6).kz K7).kz K8).gr g).md f).kz E)
 have an := ((d.md f (Qd7 c)).kz E (tk1 (Qd7 (b := b3) c)))
 refine qe rfl (Qaj Qdv rfl rfl (Qad.cs_ones _ _ (Own.oneB an)) aY rfl rfl) ?_
 rintro _ bx ⟨ao, U⟩
 refine qm rfl<|qm rfl<|Qa1<|Qag ?_
 have aZ := (an.md U (Qd7 c))
 have a0 := (L.md U (Qd7 s))
 have a1 := ((ah.kz E).md U)
 cases hm
 refine ⟨_, _, rfl, Xoe rfl (Qap Qdv rfl ao rfl) (Qab rfl) (Qab rfl), ?_⟩
 exact ⟨h, j, l, vy7, zy7, gy7, rfl, aZ, ⟨(Qbs (A := (fun x => w.heap.size ≤ x)) c)⟩, a0, ⟨(Qbs (A := (fun x => w.heap.size ≤ x)) s)⟩, ⟨(Qbs (A := (fun x => j = 0 ∨ x ≠ l)) s (fun x hx => (tk1 ag.o)))⟩, a1⟩
end Go.Proofs.YtjdffpglgkefmaaGreat.Mx
