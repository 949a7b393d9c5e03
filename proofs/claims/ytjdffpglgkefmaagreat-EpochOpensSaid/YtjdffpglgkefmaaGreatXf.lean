/- Walks that follow mirrors: Xf. Printed by mx.py. -/
import Derived.Test.YtjdffpglgkefmaaGreatXe
import Derived.Test.YtjdffpglgkefmaaGreatZd
set_option linter.unusedVariables false
set_option linter.unusedSimpArgs false
set_option maxRecDepth 100000
set_option maxHeartbeats 16000000
namespace Go.Proofs.YtjdffpglgkefmaaGreat.Mx
open Go Go.RowKit Go.Sx
theorem Xsv : ZV Tryz.prog 65 (.agg [.int .i64 0, .int .i64 0, .int .i64 0, .int .i64 0, .int .i64 0].toArray) := fun _ => by kernel_rfl
theorem Xu8 : BS Tryz.prog 65 (fun i => [(0, 1), (1, 1), (2, 1), (3, 1), (4, 1)][i]?) [.int .i64 0, .int .i64 0, .int .i64 0, .int .i64 0, .int .i64 0] := Qr5 Tryz.underlying65 Xsv ⟨rfl, (Qaw).siz, rfl, (Qaw).siz, rfl, (Qaw).siz, rfl, (Qaw).siz, rfl, (Qaw).siz, trivial⟩
theorem Qke : En Tryz.prog 55 := fun _ _ => by kernel_rfl
theorem Xtt : En Tryz.prog 46 := fun _ _ => by kernel_rfl
theorem Xu4 : En Tryz.prog 45 := fun _ _ => by kernel_rfl
theorem Xub : En Tryz.prog 47 := fun _ _ => by kernel_rfl
theorem Xkm : BSl Tryz.prog 44 2 3 1 [.int .i64 0, .int .i64 0] := Qr9 Tryz.underlying44 (Qaw).siz Xv8 rfl rfl (by kernel_rfl)
theorem Xts : En Tryz.prog 28 := fun _ _ => by kernel_rfl
theorem Xte : BA Tryz.prog 23 1 [.int .u8 0, .int .u8 0, .int .u8 0, .int .u8 0, .int .u8 0, .int .u8 0, .int .u8 0, .int .u8 0, .int .u8 0, .int .u8 0, .int .u8 0, .int .u8 0, .int .u8 0, .int .u8 0, .int .u8 0, .int .u8 0] := ⟨_, _, Tryz.underlying23, (Qcu).siz, Qeo⟩
theorem Qs1 : En Tryz.prog 59 := fun _ _ => by kernel_rfl
theorem Xai : En Tryz.prog 29 := fun _ _ => by kernel_rfl
theorem Qsj : BSl Tryz.prog 50 3 5 1 [.int .u8 0, .int .u8 0, .int .u8 0] := Qr9 Tryz.underlying50 (Qcu).siz Xqj rfl rfl (by kernel_rfl)
theorem Qrl : En Tryz.prog 31 := fun _ _ => by kernel_rfl
theorem Xa1 : En Tryz.prog 35 := fun _ _ => by kernel_rfl
theorem Qx5 : En Tryz.prog 37 := fun _ _ => by kernel_rfl
theorem Qbb {r} (hm : Qed = some r) {w : World} :
    Calls Tryz.prog 55 [].toArray w fun e w' => ∃ v, e = .returned v ∧ (v = .agg (Qfr.cs r).toArray ∧ Gr w w') := by
 unfold Qed at hm
 refine Qa5 2 Tryz.func55 rfl rfl rfl<|qs 1 rfl<|qe rfl (Qa8 (cs := Qfr.cs (Qfr.mk 0 0 0 0 0)) Xsv rfl) ?_
 rintro _ w1 ⟨b1, rfl, c, a, G1⟩
 refine qd 2 rfl<|qv rfl (Qas (cs := Qfr.cs (Qfr.mk 100 10 20 6 2)) Xu8 rfl rfl)<|qe rfl (Qaj Qht rfl rfl rfl a rfl rfl) ?_
 rintro _ w2 ⟨b, M2⟩
 refine Qa1<|Qag ?_
 have X4 := (((Gr.refl w).trans G1).md M2)
 cases hm
 refine ⟨_, _, rfl, Qb1 rfl (Qap Qht rfl b rfl), ?_⟩
 exact ⟨rfl, X4⟩
theorem Qv0 {p0 p1 vp0 zp0 gp0 op0 vp1 zp1 gp1 op1 r} (hm : Qnx p0 p1 = some r) {w : World} (d : Rd w zp0 gp0 op0 1 vp0 (p0.map ic)) (g : Rd w zp1 gp1 op1 1 vp1 (p1.map ic)) :
    Calls Tryz.prog 28 [vp0, vp1].toArray w fun e w' => ∃ v, e = .returned v ∧ (v = .bool r ∧ Gr w w') := by
 unfold Qnx at hm
 refine Qa5 26 Tryz.func28 rfl rfl rfl<|qs 1 rfl<|qm rfl<|Qa1<|Qa3<|Qa3 ?_
 refine qg 5 rfl<|qm rfl<|qv rfl (Qbi (l := p0) (c := ic) Tryz.underlying44 rfl d)<|qm rfl<|qv rfl (Qbi (l := p1) (c := ic) Tryz.underlying44 rfl g)<|qv rfl (Qc2 (a := (p0.length : Int)) (b := (p1.length : Int)) rfl rfl)<|Qa1 ?_
 refine Qam rfl (fun c1 => ?_) (fun c1 => ?_)
 · replace hm := iT c1 hm
   refine qs 1 rfl<|qm rfl<|qb ?_
   cases hm
   refine ⟨_, _, rfl, Qb1 rfl (Qab rfl), ?_⟩
   exact ⟨rfl, (Gr.refl w)⟩
 replace hm := iF c1 hm
 refine qu<|Qa3<|qs 3 rfl<|qm rfl<|qv rfl (Qbi (l := p0) (c := ic) Tryz.underlying44 rfl d) ?_
 refine qm rfl<|Qa1<|Qan<|Qbj (α := Nat × Int) ([4, 5] ++ rg 13 13) (fun ⟨n1, a2⟩ => [(4, .bool false), (13, .int .i64 a2)]) (fun ⟨n1, a2⟩ wr => (Qc3 (Qip p0 p1) n1 a2 = some r) ∧ Kz [] w wr) (fun ⟨n1, a2⟩ => n1) ⟨Qcw, 0⟩ ?_ ?_ ?_
 · exact sbq
 · exact ⟨hm, Kz.refl _ _⟩
 clear hm; rintro ⟨n1, a2⟩ w1 ⟨hm, K1⟩
 have hb := Qbv hm; clear hm; obtain ⟨n1, rfl, hm⟩ := hb
 generalize f : Qc3 (Qip p0 p1) n1 = m at hm
 unfold Qip at hm
 try dsimp only at hm
 refine qs 1 rfl<|qv rfl (Qcd (a := a2) (b := (p0.length : Int)) rfl rfl)<|Qa1<|Qa3<|cnF rfl (fun c2 => ?_) (fun c2 => ?_)
 · replace hm := iF c2 hm
   refine Qbp<|Qb4<|Qb4<|Qbq<|Qaz<|qs 1 rfl ?_
   refine qm rfl<|Qa1<|Qag ?_
   have X8 := ((Gr.refl w).kz K1)
   cases hm
   refine ⟨_, _, rfl, Qb1 rfl (Qab rfl), ?_⟩
   exact ⟨rfl, X8⟩
 replace hm := iT c2 hm
 refine qu<|Qa3<|Qan<|qs 2 rfl<|qm rfl ?_
 refine qm rfl<|Qa1<|Qa3<|dw [([])] [] (.leaf [(0,10),(1,10),(2,10),(3,10),(4,10),(5,10),(6,10),(7,10),(8,10)]) ?_
 intro w2 G2 n
 refine Qal<|dm 0 rfl rfl<|dm 0 rfl rfl ?_
 obtain ⟨y3, h, hm⟩ := bnd hm
 have B4 := ((d.kz K1).gr G2)
 refine dh 0 rfl rfl (fun w hS => Qf7 (i := a2) Tryz.underlying44 (Qaw).siz rfl (Rd.kp B4 hS) rfl h)<|dh 0 rfl rfl (fun w hS => Qk9 (q := 0) (u := .int .i64 y3) Qaw rfl (Rd.kp B4 hS) h (by first | rfl | omega) rfl)<|dm 0 rfl rfl<|dm 0 rfl rfl ?_
 obtain ⟨y4, j, hm⟩ := bnd hm
 have B5 := ((g.kz K1).gr G2)
 refine dh 0 rfl rfl (fun w hS => Qf7 (i := a2) Tryz.underlying44 (Qaw).siz rfl (Rd.kp B5 hS) rfl j)<|dh 0 rfl rfl (fun w hS => Qk9 (q := 0) (u := .int .i64 y4) Qaw rfl (Rd.kp B5 hS) j (by first | rfl | omega) rfl)<|dh 0 rfl rfl (fun w hS => Qc2 (a := y3) (b := y4) rfl rfl)<|Qa1<|Qam rfl (fun c3 => ?_) (fun c3 => ?_)
 · replace hm := iT c3 hm
   refine qs 1 rfl<|qm rfl<|Qa1<|Qag<|Qbo<|Qb2 ?_
   refine Qb2<|Qbo<|Qb2 ?_
   have X6 := (((Gr.refl w).kz K1).trans G2)
   cases hm
   refine ⟨_, _, rfl, Qb1 rfl (Qab rfl), ?_⟩
   exact ⟨rfl, X6⟩
 replace hm := iF c3 hm
 refine Qc4<|Qay<|Qaz<|qg 2 rfl<|qv rfl (Qce (k := .i64) (a := a2) (b := 1) rfl rfl)<|qm rfl<|Qa9 ?_
 have K_7 : Kz [] w w2 := (K1.gr G2)
 subst f
 exact ⟨rfl, ⟨n1, w64 (a2 + 1)⟩, sbq, ⟨hm, K_7⟩, Nat.lt_succ_self _⟩
theorem Qcz {r} (hm : Qhm = some r) {w : World} :
    Calls Tryz.prog 59 [].toArray w fun e w' => ∃ v, e = .returned v ∧ (v = .agg (Qa7.cs r).toArray ∧ Gr w w') := by
 unfold Qhm at hm
 refine Qa5 2 Tryz.func59 rfl rfl rfl<|qs 1 rfl<|qe rfl (Qa8 (cs := Qa7.cs (Qa7.mk 0#8 0 0 (Qei.mk 0#64 0#64 0#64))) Xpy rfl) ?_
 rintro _ w1 ⟨b1, rfl, c, a, G1⟩
 refine qd 2 rfl<|qv rfl (Qas (cs := Qa7.cs (Qa7.mk 2#8 2 0 (Qei.mk 0#64 0#64 0#64))) Xpx rfl rfl)<|qe rfl (Qaj Qcn rfl rfl rfl a rfl rfl) ?_
 rintro _ w2 ⟨b, M2⟩
 refine Qa1<|Qag ?_
 have X4 := (((Gr.refl w).trans G1).md M2)
 cases hm
 refine ⟨_, _, rfl, Qb1 rfl (Qap Qcn rfl b rfl), ?_⟩
 exact ⟨rfl, X4⟩
theorem Qyg {r} (hm : Qmn = some r) {w : World} :
    Calls Tryz.prog 42 [].toArray w fun e w' => ∃ v, e = .returned v ∧ (v = .bool r ∧ Gr w w') := by
 unfold Qmn at hm
 refine Qa5 184 Tryz.func42 rfl rfl rfl<|qs 1 rfl<|qm rfl<|qd 7 rfl ?_
 obtain ⟨x1, zb, hm⟩ := bnd hm
 refine qe rfl (eC Qke rfl (Qbb zb)) ?_
 rintro _ w1 ⟨rfl, G1⟩
 have z1 := G1.size
 obtain ⟨x2, zc, hm⟩ := bnd hm
 refine qe rfl (eC Xpw rfl (Qqe zc)) ?_
 rintro _ w2 ⟨rfl, G2⟩
 have z2 := G2.size
 refine qm rfl<|qm rfl<|qm rfl<|qm rfl<|qm rfl<|Qa1<|Qa3 ?_
 refine qg 7 rfl ?_
 obtain ⟨x3, zd, hm⟩ := bnd hm
 refine qe rfl (eC Qke rfl (Qbb zd)) ?_
 rintro _ w3 ⟨rfl, G3⟩
 have z3 := G3.size
 obtain ⟨x4, ze, hm⟩ := bnd hm
 refine qe rfl (eC Xro rfl (Qps ze)) ?_
 rintro _ w4 ⟨rfl, G4⟩
 have z4 := G4.size
 refine qm rfl<|qm rfl<|qm rfl<|qm rfl<|qm rfl<|Qa1<|Qa3 ?_
 refine qg 7 rfl ?_
 obtain ⟨x5, zg, hm⟩ := bnd hm
 refine qe rfl (eC Qke rfl (Qbb zg)) ?_
 rintro _ w5 ⟨rfl, G5⟩
 have z5 := G5.size
 obtain ⟨x6, zh, hm⟩ := bnd hm
 refine qe rfl (eC Xtt rfl (Xbu zh)) ?_
 rintro _ w6 ⟨rT, rU, rV, rfl, kB, rW, G6⟩
 have z6 := G6.size
 refine qm rfl<|qm rfl<|qm rfl<|qm rfl<|qm rfl<|Qa1<|Qa3 ?_
 refine qg 7 rfl ?_
 obtain ⟨x7, zi, hm⟩ := bnd hm
 refine qe rfl (eC Qke rfl (Qbb zi)) ?_
 rintro _ w7 ⟨rfl, G7⟩
 have z8 := G7.size
 obtain ⟨x8, zj, hm⟩ := bnd hm
 refine qe rfl (eC Xu4 rfl (Qwo zj)) ?_
 rintro _ w8 ⟨rfl, G8⟩
 have z9 := G8.size
 refine qm rfl<|qm rfl<|qm rfl<|qm rfl<|qm rfl<|Qa1<|Qa3 ?_
 refine qg 7 rfl ?_
 obtain ⟨x9, zk, hm⟩ := bnd hm
 refine qe rfl (eC Qke rfl (Qbb zk)) ?_
 rintro _ w9 ⟨rfl, G9⟩
 have EH := G9.size
 obtain ⟨rX, rY, hm⟩ := bnd hm
 refine qe rfl (eC Xub rfl (Qwz rY)) ?_
 rintro _ zl ⟨rfl, oP⟩
 have EI := oP.size
 refine qm rfl<|qm rfl<|qm rfl<|qm rfl<|qm rfl<|Qa1<|Qa3 ?_
 have rZ := (((((((((((Gr.refl w).trans G1).trans G2).trans G3).trans G4).trans G5).trans G6).trans G7).trans G8).trans G9).trans oP)
 refine qj (β := Bool) (rg 45 40) (fun lU => [(84, .bool lU)]) (fun lU wr => (Qca lU = some r) ∧ Kz [] zl wr) ?_ ?_
 · refine qg 40 rfl<|qm rfl<|qv rfl (Qc2 (a := x2.2) (b := 0) rfl rfl)<|qp rfl (Qac rfl) (fun oQ => ?_) (fun oQ => ?_)
   · replace hm := iT oQ hm
     refine qk rfl<|qk rfl<|qm rfl<|qm rfl<|qk rfl<|qk rfl<|qm rfl ?_
     refine qm rfl<|qk rfl<|qk rfl<|qm rfl<|qm rfl<|qk rfl<|qk rfl ?_
     refine qm rfl<|qm rfl<|qk rfl<|qk rfl<|qk rfl<|qk rfl<|qm rfl ?_
     refine qm rfl<|qk rfl<|qk rfl<|qm rfl<|qm rfl<|qk rfl<|qk rfl ?_
     refine qm rfl<|qm rfl<|qk rfl<|qk rfl<|qm rfl<|qm rfl<|qk rfl ?_
     refine qk rfl<|qm rfl<|Qa9 ?_
     exact ⟨rfl, true, sbq, hm, kz0⟩
   replace hm := iF oQ hm
   refine qm rfl<|qv rfl (Qc2 (a := x2.1) (b := 0) rfl rfl)<|qm rfl<|qp rfl (Qac rfl) (fun oR => ?_) (fun oR => ?_)
   · replace hm := iT oR hm
     refine qk rfl<|qk rfl<|qm rfl<|qm rfl<|qk rfl<|qk rfl<|qm rfl ?_
     refine qm rfl<|qk rfl<|qk rfl<|qm rfl<|qm rfl<|qk rfl<|qk rfl ?_
     refine qk rfl<|qk rfl<|qm rfl<|qm rfl<|qk rfl<|qk rfl<|qm rfl ?_
     refine qm rfl<|qk rfl<|qk rfl<|qm rfl<|qm rfl<|qk rfl<|qk rfl ?_
     refine qm rfl<|qm rfl<|qk rfl<|qk rfl<|qm rfl<|Qa9 ?_
     exact ⟨rfl, true, sbq, hm, kz0⟩
   replace hm := iF oR hm
   refine qm rfl<|qv rfl (Qc2 (a := x4.2) (b := 0) rfl rfl)<|qm rfl<|qp rfl (Qac rfl) (fun oS => ?_) (fun oS => ?_)
   · replace hm := iT oS hm
     refine qk rfl<|qk rfl<|qm rfl<|qm rfl<|qk rfl<|qk rfl<|qm rfl ?_
     refine qm rfl<|qk rfl<|qk rfl<|qk rfl<|qk rfl<|qm rfl<|qm rfl ?_
     refine qk rfl<|qk rfl<|qm rfl<|qm rfl<|qk rfl<|qk rfl<|qm rfl ?_
     refine qm rfl<|qk rfl<|qk rfl<|qm rfl<|qm rfl<|qk rfl<|qk rfl ?_
     refine qm rfl<|Qa9 ?_
     exact ⟨rfl, true, sbq, hm, kz0⟩
   replace hm := iF oS hm
   refine qm rfl<|qv rfl (Qc2 (a := x4.1) (b := 9) rfl rfl)<|qm rfl<|qp rfl (Qac rfl) (fun oT => ?_) (fun oT => ?_)
   · replace hm := iT oT hm
     refine qk rfl<|qk rfl<|qm rfl<|qm rfl<|qk rfl<|qk rfl<|qk rfl ?_
     refine qk rfl<|qm rfl<|qm rfl<|qk rfl<|qk rfl<|qm rfl<|qm rfl ?_
     refine qk rfl<|qk rfl<|qm rfl<|qm rfl<|qk rfl<|qk rfl<|qm rfl ?_
     refine qm rfl<|qk rfl<|qk rfl<|qm rfl<|Qa9 ?_
     exact ⟨rfl, true, sbq, hm, kz0⟩
   replace hm := iF oT hm
   refine qm rfl<|qv rfl (Qc2 (a := x6.2) (b := 0) rfl rfl)<|qm rfl<|qp rfl (Qac rfl) (fun oU => ?_) (fun oU => ?_)
   · replace hm := iT oU hm
     refine qk rfl<|qk rfl<|qk rfl<|qk rfl<|qm rfl<|qm rfl<|qk rfl ?_
     refine qk rfl<|qm rfl<|qm rfl<|qk rfl<|qk rfl<|qm rfl<|qm rfl ?_
     refine qk rfl<|qk rfl<|qm rfl<|qm rfl<|qk rfl<|qk rfl<|qm rfl ?_
     refine Qa9 ?_
     exact ⟨rfl, true, sbq, hm, kz0⟩
   replace hm := iF oU hm
   refine qm rfl<|qe rfl (Qdk [0, 1] ic Xkm rfl rfl (Qjr rfl) rfl rfl rfl) ?_
   rintro zm B1 ⟨zn, yk, oV, cD⟩
   have r0 := (((((kB.gr G7).gr G8).gr G9).gr oP).gr cD)
   obtain ⟨B2, oW, hm⟩ := bnd hm
   refine qe rfl (eC Xts rfl (Qv0 oW (Own.rd r0) (Own.rd oV))) ?_
   rintro _ B3 ⟨rfl, dR⟩
   refine qv rfl (Qci rfl)<|qm rfl<|qp rfl (Qac rfl) (fun oX => ?_) (fun oX => ?_)
   · replace hm := Qc8 oX hm
     refine qk rfl<|qk rfl<|qm rfl<|qm rfl<|qk rfl<|qk rfl<|qm rfl ?_
     refine qm rfl<|qk rfl<|qk rfl<|qm rfl<|qm rfl<|qk rfl<|qk rfl ?_
     refine qm rfl<|Qa9 ?_
     have Y1 := Gr.trans cD dR
     exact ⟨rfl, true, sbq, hm, (kz0.gr Y1)⟩
   replace hm := Qc7 oX hm
   refine qm rfl<|qv rfl (Qc2 (a := x8.2) (b := 0) rfl rfl)<|qm rfl<|qp rfl (Qac rfl) (fun oY => ?_) (fun oY => ?_)
   · replace hm := iT oY hm
     refine qk rfl<|qk rfl<|qm rfl<|qm rfl<|qk rfl<|qk rfl<|qm rfl ?_
     refine qm rfl<|qk rfl<|qk rfl<|qm rfl<|Qa9 ?_
     have Y2 := Gr.trans cD dR
     exact ⟨rfl, true, sbq, hm, (kz0.gr Y2)⟩
   replace hm := iF oY hm
   refine qm rfl<|qv rfl (Qc2 (a := x8.1) (b := 9) rfl rfl)<|qm rfl<|qp rfl (Qac rfl) (fun oZ => ?_) (fun oZ => ?_)
   · replace hm := iT oZ hm
     refine qk rfl<|qk rfl<|qm rfl<|qm rfl<|qk rfl<|qk rfl<|qm rfl ?_
     refine Qa9 ?_
     have Y3 := Gr.trans cD dR
     exact ⟨rfl, true, sbq, hm, (kz0.gr Y3)⟩
   replace hm := iF oZ hm
   refine qm rfl<|qv rfl (Qc2 (a := rX.2) (b := 0) rfl rfl)<|qm rfl<|qp rfl (Qac rfl) (fun o0 => ?_) (fun o0 => ?_)
   · replace hm := iT o0 hm
     refine qk rfl<|qk rfl<|qm rfl<|Qa9 ?_
     have Y4 := Gr.trans cD dR
     exact ⟨rfl, true, sbq, hm, (kz0.gr Y4)⟩
   replace hm := iF o0 hm
   refine qm rfl<|qv rfl (Qci rfl)<|qm rfl<|Qa9 ?_
   have Y5 := Gr.trans cD dR
   exact ⟨rfl, (!rX.1), sbq, hm, (kz0.gr Y5)⟩
 clear hm; rintro lU EJ ⟨hm, o1⟩
 have EK := o1.size
 unfold Qca at hm
 refine Qam rfl (fun c1 => ?_) (fun c1 => ?_)
 · replace hm := Qc8 c1 hm
   refine qs 1 rfl<|qm rfl<|qb ?_
   have zo := (rZ.kz o1)
   cases hm
   refine ⟨_, _, rfl, Qb1 rfl (Qab rfl), ?_⟩
   exact ⟨rfl, zo⟩
 replace hm := Qc7 c1 hm
 refine qu<|qs 3 rfl<|qv rfl (Qqh (cs := kb (72623842526232576#64, 0#64)) Xte rfl (by kernel_rfl))<|qe rfl (Qa8 (cs := kb k0) Qeo rfl) ?_
 rintro _ EL ⟨EM, rfl, zp, r1, zq⟩
 refine qe rfl (Qaj Qak rfl rfl rfl r1 rfl rfl) ?_
 rintro _ i ⟨ip, zr⟩
 refine Qa1 ?_
 have zs := (((rZ.kz o1).trans zq).md zr)
 refine qj (β := Int × Qai × Nat × Value × Nat × Nat × Value × Nat × Nat × Value × Nat × Nat) ([2, 12] ++ rg 86 7) (fun ⟨dS, aP, bq13, vy15, zy15, gy15, vy16, zy16, gy16, vy17, zy17, gy17⟩ => [(2, .int .i64 dS), (12, .pointer (some ⟨bq13, 0, none⟩))]) (fun ⟨dS, aP, bq13, vy15, zy15, gy15, vy16, zy16, gy16, vy17, zy17, gy17⟩ wr => (Ql0 dS aP = some r) ∧ Own wr zy15 gy15 133 18 vy15 (aP.Head.Items.map Qcc.cs) ∧ Hdn (zy15 = 0 ∨ i.heap.size ≤ gy15) ∧ Own wr zy16 gy16 31 2 vy16 (aP.Head.Points.map Qah.cs) ∧ Hdn (zy16 = 0 ∨ i.heap.size ≤ gy16) ∧ Own wr zy17 gy17 5 1 vy17 (aP.Data.map bvc) ∧ Hdn (zy17 = 0 ∨ i.heap.size ≤ gy17) ∧ Bx wr bq13 52 (Qai.cs aP vy15 vy16 vy17) ∧ i.heap.size ≤ bq13 ∧ Hdn (zy16 = 0 ∨ zy15 = 0 ∨ gy16 ≠ gy15) ∧ Hdn (zy17 = 0 ∨ zy15 = 0 ∨ gy17 ≠ gy15) ∧ Hdn (zy17 = 0 ∨ zy16 = 0 ∨ gy17 ≠ gy16) ∧ Hdn (zy15 = 0 ∨ gy15 ≠ bq13) ∧ Hdn (zy16 = 0 ∨ gy16 ≠ bq13) ∧ Hdn (zy17 = 0 ∨ gy17 ≠ bq13) ∧ Kz [] i wr) ?_ ?_
 · refine dw [([])] [] (.fork [(0,10)] (.fork [(1,0)] (.fork [(2,0)] (.leaf [(3,0),(4,10),(5,10),(6,10),(7,0),(8,0),(9,10)]) (.leaf [(7,0),(3,0),(4,10),(5,10),(6,10),(8,0),(9,10)])) (.leaf [(7,0),(2,0),(3,0),(4,10),(5,10),(6,10),(8,0),(9,10)])) (.fork [] (.fork [(2,0)] (.fork [(1,0)] (.leaf [(3,0),(4,10),(5,10),(6,10),(7,0),(8,0),(9,10)]) (.leaf [(7,0),(3,0),(4,10),(5,10),(6,10),(8,0),(9,10)])) (.leaf [(7,0),(1,0),(3,0),(4,10),(5,10),(6,10),(8,0),(9,10)])) (.fork [(7,0)] (.leaf [(1,0),(2,0),(3,0),(4,10),(5,10),(6,10),(8,0),(9,10)]) (.leaf [(2,0),(1,0),(3,0),(4,10),(5,10),(6,10),(8,0),(9,10)])))) ?_
   intro a1 aI zt
   refine Qbc ?_
   have r2 := (ip.gr aI)
   refine dh 0 rfl rfl (fun w hS => Qa4 Qak rfl (Bx.kp r2 hS) rfl)<|Qbt ?_ (Qbc (Qbt ?_ ?_))
   · refine Qbc ?_
     obtain ⟨B4, o2, hm⟩ := bnd hm
     refine qz [] rfl (eC Qs1 rfl (Qcz o2)) ⟨fun _ => tk0, trivial⟩ ?_
     rintro _ B5 ⟨rfl, cE⟩
     have B6 := cE.size
     refine kG cE<|Qbt ?_ ?_
     · refine Qbc<|qz [] rfl (Qdk [2] ic Qpf rfl rfl (Qjr rfl) rfl rfl rfl) ⟨fun _ => tk0, trivial⟩ ?_
       rintro zu B7 ⟨zv, ym, kC, dT⟩
       have B8 := dT.size
       refine kG dT<|Qbt ?_ ?_
       · refine Qal ?_
         obtain ⟨nX, o3, hm⟩ := bnd hm
         refine qz [] rfl (eC Xai rfl (Qgw o3 (Own.rd kC))) ⟨fun _ => tk0, trivial⟩ ?_
         rintro _ B9 ⟨fB, fC, fD, fE, fF, fG, dU, dV, dW, rfl, bz, fH, bA, fI, a2, dX, lV, lW, lX, iq⟩
         have Ca := iq.size
         have kD := bz.lth
         have kE := bA.lth
         have kF := a2.lth
         refine kG iq ?_
         have ir := ((((Kp.refl ([]) a1).gr cE).gr dT).gr iq)
         refine dn 0 rfl rfl ir<|dn 0 rfl rfl ir<|dn 0 rfl rfl ir<|qz [] rfl (Qa8 (cs := Qai.cs (Qai.mk 0#8 0 (Qaa.mk [] 0#64 [] k0 k0) 0#8 0#64 [] k0) (.slice none 0 0) (.slice none 0 0) (.slice none 0 0)) Qm4 rfl) ⟨fun _ => tk0, trivial⟩ ?_
         rintro _ Cb ⟨dY, rfl, yn, o4, cF⟩
         refine kG cF ?_
         have nY := (bz.gr cF)
         have nZ := (bA.gr cF)
         have n0 := (a2.gr cF)
         refine qz [(1, dY)] rfl (Qaj Qcr rfl rfl (Qai.cs_ones _ _ _ _ (Own.oneB nY) (Own.oneB nZ) (Own.oneB n0)) o4 rfl rfl) ⟨fun _ => tk0, trivial⟩ ?_
         rintro _ r3 ⟨o5, cG⟩
         refine kM cG ?_
         have r4 := ((ir.gr cF).md cG)
         refine dn 0 rfl rfl r4<|Qa9 ?_
         have K_589 : Kz [] i r3 := ((((((Kz.gr (Kz.refl _ _) aI).gr cE).gr dT).gr iq).gr cF).md cG)
         have r5 := (nY.md cG (Qau kD))
         have r6 := (nZ.md cG (Qau kE))
         have r7 := (n0.md cG (Qau kF))
         exact ⟨rfl, ⟨nX.2, nX.1, dY, fB, fC, fD, fE, fF, fG, dU, dV, dW⟩, sbq, hm, r5, ⟨(Qbs (A := (fun x => i.heap.size ≤ x)) fH)⟩, r6, ⟨(Qbs (A := (fun x => i.heap.size ≤ x)) fI)⟩, r7, ⟨(Qbs (A := (fun x => i.heap.size ≤ x)) dX)⟩, o5, (by omega), ⟨(tk1 lV.o)⟩, ⟨(tk1 lW.o)⟩, ⟨(tk1 lX.o)⟩, ⟨(Qlf (A := (fun x => x ≠ dY)) kD)⟩, ⟨(Qlf (A := (fun x => x ≠ dY)) kE)⟩, ⟨(Qlf (A := (fun x => x ≠ dY)) kF)⟩, K_589⟩
       refine Qal<|qz [] rfl (Qa8 (cs := Qai.cs (Qai.mk 0#8 0 (Qaa.mk [] 0#64 [] k0 k0) 0#8 0#64 [] k0) (.slice none 0 0) (.slice none 0 0) (.slice none 0 0)) Qm4 rfl) ⟨fun _ => tk0, trivial⟩ ?_
       rintro _ Cc ⟨dZ, rfl, yo, kH, kI⟩
       have zw := kH.lt
       refine kG kI ?_
       have r8 := (kC.gr kI)
       obtain ⟨n1, o6, hm⟩ := bnd hm
       refine qz [] rfl (eC Xai rfl (Qgw o6 (Own.rd r8))) ⟨fun _ => tk0, trivial⟩ ?_
       rintro _ Cd ⟨fJ, fK, fL, fM, fO, fP, d0, d1, d2, rfl, bB, U, bC, V, a3, z, lY, lZ, l0, kJ⟩
       refine kG kJ ?_
       have Y6 := Gr.trans (Gr.trans (Gr.trans cE dT) kI) kJ
       have it := ((Kp.refl ([]) a1).gr Y6)
       refine dn 0 rfl rfl it<|dn 0 rfl rfl it<|dn 0 rfl rfl it ?_
       have r9 := (kH.gr kJ)
       refine qz [(1, dZ)] rfl (Qaj Qcr rfl rfl (Qai.cs_ones _ _ _ _ (Own.oneB bB) (Own.oneB bC) (Own.oneB a3)) r9 rfl rfl) ⟨fun _ => tk0, trivial⟩ ?_
       rintro _ sa ⟨o7, cH⟩
       refine kM cH ?_
       have sb := (it.md cH)
       refine dn 0 rfl rfl sb<|Qa9 ?_
       have K_604 : Kz [] i sa := (((Kz.gr (Kz.refl _ _) aI).gr Y6).md cH)
       have sc := (bB.md cH (Qd7 U))
       have sd := (bC.md cH (Qd7 V))
       have se := (a3.md cH (Qd7 z))
       exact ⟨rfl, ⟨n1.2, n1.1, dZ, fJ, fK, fL, fM, fO, fP, d0, d1, d2⟩, sbq, hm, sc, ⟨(Qbs (A := (fun x => i.heap.size ≤ x)) U)⟩, sd, ⟨(Qbs (A := (fun x => i.heap.size ≤ x)) V)⟩, se, ⟨(Qbs (A := (fun x => i.heap.size ≤ x)) z)⟩, o7, (by omega), ⟨(tk1 lY.o)⟩, ⟨(tk1 lZ.o)⟩, ⟨(tk1 l0.o)⟩, ⟨(Qbs (A := (fun x => x ≠ dZ)) U)⟩, ⟨(Qbs (A := (fun x => x ≠ dZ)) V)⟩, ⟨(Qbs (A := (fun x => x ≠ dZ)) z)⟩, K_604⟩
     refine Qal<|qz [] rfl (Qa8 (cs := Qai.cs (Qai.mk 0#8 0 (Qaa.mk [] 0#64 [] k0 k0) 0#8 0#64 [] k0) (.slice none 0 0) (.slice none 0 0) (.slice none 0 0)) Qm4 rfl) ⟨fun _ => tk0, trivial⟩ ?_
     rintro _ Ce ⟨d3, rfl, yp, kK, n2⟩
     have zx := kK.lt
     refine kG n2<|qz [] rfl (Qdk [2] ic Qpf rfl rfl (Qjr rfl) rfl rfl rfl) ⟨fun _ => tk0, trivial⟩ ?_
     rintro zy Cf ⟨zz, yq, o8, iu⟩
     have Cg := iu.size
     refine kG iu ?_
     obtain ⟨n3, o9, hm⟩ := bnd hm
     refine qz [] rfl (eC Xai rfl (Qgw o9 (Own.rd o8))) ⟨fun _ => tk0, trivial⟩ ?_
     rintro _ Ch ⟨fQ, fR, fS, fT, fU, fV, d4, d5, d6, rfl, bD, W, bE, X, a4, B, l1, l2, l3, kL⟩
     refine kG kL ?_
     have Y7 := Gr.trans (Gr.trans (Gr.trans cE n2) iu) kL
     have iw := ((Kp.refl ([]) a1).gr Y7)
     refine dn 0 rfl rfl iw<|dn 0 rfl rfl iw<|dn 0 rfl rfl iw ?_
     have sf := ((kK.gr iu).gr kL)
     refine qz [(1, d3)] rfl (Qaj Qcr rfl rfl (Qai.cs_ones _ _ _ _ (Own.oneB bD) (Own.oneB bE) (Own.oneB a4)) sf rfl rfl) ⟨fun _ => tk0, trivial⟩ ?_
     rintro _ sg ⟨pa, cI⟩
     refine kM cI ?_
     have sh := (iw.md cI)
     refine dn 0 rfl rfl sh<|Qa9 ?_
     have K_620 : Kz [] i sg := (((Kz.gr (Kz.refl _ _) aI).gr Y7).md cI)
     have si := (bD.md cI (Qd7 W))
     have sj := (bE.md cI (Qd7 X))
     have sk := (a4.md cI (Qd7 B))
     exact ⟨rfl, ⟨n3.2, n3.1, d3, fQ, fR, fS, fT, fU, fV, d4, d5, d6⟩, sbq, hm, si, ⟨(Qbs (A := (fun x => i.heap.size ≤ x)) W)⟩, sj, ⟨(Qbs (A := (fun x => i.heap.size ≤ x)) X)⟩, sk, ⟨(Qbs (A := (fun x => i.heap.size ≤ x)) B)⟩, pa, (by omega), ⟨(tk1 l1.o)⟩, ⟨(tk1 l2.o)⟩, ⟨(tk1 l3.o)⟩, ⟨(Qbs (A := (fun x => x ≠ d3)) W)⟩, ⟨(Qbs (A := (fun x => x ≠ d3)) X)⟩, ⟨(Qbs (A := (fun x => x ≠ d3)) B)⟩, K_620⟩
   · refine Qbc<|qz [] rfl (Qdk [2] ic Qpf rfl rfl (Qjr rfl) rfl rfl rfl) ⟨fun _ => tk0, trivial⟩ ?_
     rintro zA Ci ⟨zB, yr, fW, cJ⟩
     have Cj := cJ.size
     refine kG cJ<|Qbt ?_ ?_
     · refine Qbc ?_
       obtain ⟨Cl, pc, hm⟩ := bnd hm
       refine qz [] rfl (eC Qs1 rfl (Qcz pc)) ⟨fun _ => tk0, trivial⟩ ?_
       rintro _ Cm ⟨rfl, bF⟩
       have Cn := bF.size
       refine kG bF<|Qbt ?_ ?_
       · refine Qal ?_
         have sl := (fW.gr bF)
         obtain ⟨n4, pd, hm⟩ := bnd hm
         refine qz [] rfl (eC Xai rfl (Qgw pd (Own.rd sl))) ⟨fun _ => tk0, trivial⟩ ?_
         rintro _ Co ⟨fX, fY, fZ, f0, f1, f2, d7, d8, d9, rfl, bG, f3, bH, f4, a5, ea, l4, l5, l6, ix⟩
         have Cp := ix.size
         have kN := bG.lth
         have kO := bH.lth
         have kP := a5.lth
         refine kG ix ?_
         have iy := ((((Kp.refl ([]) a1).gr cJ).gr bF).gr ix)
         refine dn 0 rfl rfl iy<|dn 0 rfl rfl iy<|dn 0 rfl rfl iy<|qz [] rfl (Qa8 (cs := Qai.cs (Qai.mk 0#8 0 (Qaa.mk [] 0#64 [] k0 k0) 0#8 0#64 [] k0) (.slice none 0 0) (.slice none 0 0) (.slice none 0 0)) Qm4 rfl) ⟨fun _ => tk0, trivial⟩ ?_
         rintro _ Cq ⟨eb, rfl, ys, pe, cK⟩
         refine kG cK ?_
         have n5 := (bG.gr cK)
         have n6 := (bH.gr cK)
         have n7 := (a5.gr cK)
         refine qz [(1, eb)] rfl (Qaj Qcr rfl rfl (Qai.cs_ones _ _ _ _ (Own.oneB n5) (Own.oneB n6) (Own.oneB n7)) pe rfl rfl) ⟨fun _ => tk0, trivial⟩ ?_
         rintro _ sm ⟨pf, cL⟩
         refine kM cL ?_
         have sn := ((iy.gr cK).md cL)
         refine dn 0 rfl rfl sn<|Qa9 ?_
         have K_640 : Kz [] i sm := ((((((Kz.gr (Kz.refl _ _) aI).gr cJ).gr bF).gr ix).gr cK).md cL)
         have so := (n5.md cL (Qau kN))
         have sp := (n6.md cL (Qau kO))
         have sq := (n7.md cL (Qau kP))
         exact ⟨rfl, ⟨n4.2, n4.1, eb, fX, fY, fZ, f0, f1, f2, d7, d8, d9⟩, sbq, hm, so, ⟨(Qbs (A := (fun x => i.heap.size ≤ x)) f3)⟩, sp, ⟨(Qbs (A := (fun x => i.heap.size ≤ x)) f4)⟩, sq, ⟨(Qbs (A := (fun x => i.heap.size ≤ x)) ea)⟩, pf, (by omega), ⟨(tk1 l4.o)⟩, ⟨(tk1 l5.o)⟩, ⟨(tk1 l6.o)⟩, ⟨(Qlf (A := (fun x => x ≠ eb)) kN)⟩, ⟨(Qlf (A := (fun x => x ≠ eb)) kO)⟩, ⟨(Qlf (A := (fun x => x ≠ eb)) kP)⟩, K_640⟩
       refine Qal<|qz [] rfl (Qa8 (cs := Qai.cs (Qai.mk 0#8 0 (Qaa.mk [] 0#64 [] k0 k0) 0#8 0#64 [] k0) (.slice none 0 0) (.slice none 0 0) (.slice none 0 0)) Qm4 rfl) ⟨fun _ => tk0, trivial⟩ ?_
       rintro _ Cr ⟨ec, rfl, yt, kQ, kR⟩
       have zC := kQ.lt
       refine kG kR ?_
       have sr := ((fW.gr bF).gr kR)
       obtain ⟨n8, pg, hm⟩ := bnd hm
       refine qz [] rfl (eC Xai rfl (Qgw pg (Own.rd sr))) ⟨fun _ => tk0, trivial⟩ ?_
       rintro _ Cs ⟨f5, f6, f7, f8, f9, ga, ed, ee, ef, rfl, bI, Y, bJ, Z, a6, C, l7, l8, l9, kS⟩
       refine kG kS ?_
       have Y8 := Gr.trans (Gr.trans (Gr.trans cJ bF) kR) kS
       have iz := ((Kp.refl ([]) a1).gr Y8)
       refine dn 0 rfl rfl iz<|dn 0 rfl rfl iz<|dn 0 rfl rfl iz ?_
       have ss := (kQ.gr kS)
       refine qz [(1, ec)] rfl (Qaj Qcr rfl rfl (Qai.cs_ones _ _ _ _ (Own.oneB bI) (Own.oneB bJ) (Own.oneB a6)) ss rfl rfl) ⟨fun _ => tk0, trivial⟩ ?_
       rintro _ st ⟨ph, cM⟩
       refine kM cM ?_
       have su := (iz.md cM)
       refine dn 0 rfl rfl su<|Qa9 ?_
       have K_655 : Kz [] i st := (((Kz.gr (Kz.refl _ _) aI).gr Y8).md cM)
       have sv := (bI.md cM (Qd7 Y))
       have sw := (bJ.md cM (Qd7 Z))
       have sx := (a6.md cM (Qd7 C))
       exact ⟨rfl, ⟨n8.2, n8.1, ec, f5, f6, f7, f8, f9, ga, ed, ee, ef⟩, sbq, hm, sv, ⟨(Qbs (A := (fun x => i.heap.size ≤ x)) Y)⟩, sw, ⟨(Qbs (A := (fun x => i.heap.size ≤ x)) Z)⟩, sx, ⟨(Qbs (A := (fun x => i.heap.size ≤ x)) C)⟩, ph, (by omega), ⟨(tk1 l7.o)⟩, ⟨(tk1 l8.o)⟩, ⟨(tk1 l9.o)⟩, ⟨(Qbs (A := (fun x => x ≠ ec)) Y)⟩, ⟨(Qbs (A := (fun x => x ≠ ec)) Z)⟩, ⟨(Qbs (A := (fun x => x ≠ ec)) C)⟩, K_655⟩
     refine Qal<|qz [] rfl (Qa8 (cs := Qai.cs (Qai.mk 0#8 0 (Qaa.mk [] 0#64 [] k0 k0) 0#8 0#64 [] k0) (.slice none 0 0) (.slice none 0 0) (.slice none 0 0)) Qm4 rfl) ⟨fun _ => tk0, trivial⟩ ?_
     rintro _ Ct ⟨eg, rfl, yu, kT, kU⟩
     have zD := kT.lt
     refine kG kU ?_
     obtain ⟨Cu, pi, hm⟩ := bnd hm
     refine qz [] rfl (eC Qs1 rfl (Qcz pi)) ⟨fun _ => tk0, trivial⟩ ?_
     rintro _ Cv ⟨rfl, eh⟩
     have Cw := eh.size
     refine kG eh ?_
     have sy := ((fW.gr kU).gr eh)
     obtain ⟨n9, pj, hm⟩ := bnd hm
     refine qz [] rfl (eC Xai rfl (Qgw pj (Own.rd sy))) ⟨fun _ => tk0, trivial⟩ ?_
     rintro _ Cx ⟨gb, gc, gf, gg, gh, gi, ei, ej, ek, rfl, bK, aa, bL, ab, a7, D, ma, mb, mc, kV⟩
     refine kG kV ?_
     have Y9 := Gr.trans (Gr.trans (Gr.trans cJ kU) eh) kV
     have iA := ((Kp.refl ([]) a1).gr Y9)
     refine dn 0 rfl rfl iA<|dn 0 rfl rfl iA<|dn 0 rfl rfl iA ?_
     have sz := ((kT.gr eh).gr kV)
     refine qz [(1, eg)] rfl (Qaj Qcr rfl rfl (Qai.cs_ones _ _ _ _ (Own.oneB bK) (Own.oneB bL) (Own.oneB a7)) sz rfl rfl) ⟨fun _ => tk0, trivial⟩ ?_
     rintro _ sA ⟨pk, cN⟩
     refine kM cN ?_
     have sB := (iA.md cN)
     refine dn 0 rfl rfl sB<|Qa9 ?_
     have K_671 : Kz [] i sA := (((Kz.gr (Kz.refl _ _) aI).gr Y9).md cN)
     have sC := (bK.md cN (Qd7 aa))
     have sD := (bL.md cN (Qd7 ab))
     have sE := (a7.md cN (Qd7 D))
     exact ⟨rfl, ⟨n9.2, n9.1, eg, gb, gc, gf, gg, gh, gi, ei, ej, ek⟩, sbq, hm, sC, ⟨(Qbs (A := (fun x => i.heap.size ≤ x)) aa)⟩, sD, ⟨(Qbs (A := (fun x => i.heap.size ≤ x)) ab)⟩, sE, ⟨(Qbs (A := (fun x => i.heap.size ≤ x)) D)⟩, pk, (by omega), ⟨(tk1 ma.o)⟩, ⟨(tk1 mb.o)⟩, ⟨(tk1 mc.o)⟩, ⟨(Qbs (A := (fun x => x ≠ eg)) aa)⟩, ⟨(Qbs (A := (fun x => x ≠ eg)) ab)⟩, ⟨(Qbs (A := (fun x => x ≠ eg)) D)⟩, K_671⟩
   refine Qbc<|qz [] rfl (Qa8 (cs := Qai.cs (Qai.mk 0#8 0 (Qaa.mk [] 0#64 [] k0 k0) 0#8 0#64 [] k0) (.slice none 0 0) (.slice none 0 0) (.slice none 0 0)) Qm4 rfl) ⟨fun _ => tk0, trivial⟩ ?_
   rintro _ Cy ⟨T, rfl, yv, gj, kW⟩
   have zE := gj.lt
   refine kG kW<|Qbt ?_ ?_
   · refine Qal ?_
     obtain ⟨Cz, pl, hm⟩ := bnd hm
     refine qz [] rfl (eC Qs1 rfl (Qcz pl)) ⟨fun _ => tk0, trivial⟩ ?_
     rintro _ CA ⟨rfl, iB⟩
     have CB := iB.size
     refine kG iB<|qz [] rfl (Qdk [2] ic Qpf rfl rfl (Qjr rfl) rfl rfl rfl) ⟨fun _ => tk0, trivial⟩ ?_
     rintro zH CC ⟨zI, yw, pm, iC⟩
     have CD := iC.size
     refine kG iC ?_
     obtain ⟨oa, pn, hm⟩ := bnd hm
     refine qz [] rfl (eC Xai rfl (Qgw pn (Own.rd pm))) ⟨fun _ => tk0, trivial⟩ ?_
     rintro _ CE ⟨gk, gl, gm, gn, go, gp, el, em, en, rfl, bM, ac, bN, ad, a8, E, me, mf, mg, kX⟩
     refine kG kX ?_
     have sF := Gr.trans (Gr.trans (Gr.trans kW iB) iC) kX
     have iD := ((Kp.refl ([]) a1).gr sF)
     refine dn 0 rfl rfl iD<|dn 0 rfl rfl iD<|dn 0 rfl rfl iD ?_
     have zJ := Gr.trans (Gr.trans iB iC) kX
     have sG := (gj.gr zJ)
     refine qz [(1, T)] rfl (Qaj Qcr rfl rfl (Qai.cs_ones _ _ _ _ (Own.oneB bM) (Own.oneB bN) (Own.oneB a8)) sG rfl rfl) ⟨fun _ => tk0, trivial⟩ ?_
     rintro _ sH ⟨po, cO⟩
     refine kM cO ?_
     have sI := (iD.md cO)
     refine dn 0 rfl rfl sI<|Qa9 ?_
     have K_688 : Kz [] i sH := (((Kz.gr (Kz.refl _ _) aI).gr sF).md cO)
     have sJ := (bM.md cO (Qd7 ac))
     have sK := (bN.md cO (Qd7 ad))
     have sL := (a8.md cO (Qd7 E))
     exact ⟨rfl, ⟨oa.2, oa.1, T, gk, gl, gm, gn, go, gp, el, em, en⟩, sbq, hm, sJ, ⟨(Qbs (A := (fun x => i.heap.size ≤ x)) ac)⟩, sK, ⟨(Qbs (A := (fun x => i.heap.size ≤ x)) ad)⟩, sL, ⟨(Qbs (A := (fun x => i.heap.size ≤ x)) E)⟩, po, (by omega), ⟨(tk1 me.o)⟩, ⟨(tk1 mf.o)⟩, ⟨(tk1 mg.o)⟩, ⟨(Qbs (A := (fun x => x ≠ T)) ac)⟩, ⟨(Qbs (A := (fun x => x ≠ T)) ad)⟩, ⟨(Qbs (A := (fun x => x ≠ T)) E)⟩, K_688⟩
   refine Qal<|qz [] rfl (Qdk [2] ic Qpf rfl rfl (Qjr rfl) rfl rfl rfl) ⟨fun _ => tk0, trivial⟩ ?_
   rintro zK CF ⟨zL, yx, pp, iE⟩
   have CG := iE.size
   refine kG iE ?_
   obtain ⟨CH, pq, hm⟩ := bnd hm
   refine qz [] rfl (eC Qs1 rfl (Qcz pq)) ⟨fun _ => tk0, trivial⟩ ?_
   rintro _ CI ⟨rfl, eo⟩
   have CJ := eo.size
   refine kG eo ?_
   have sM := (pp.gr eo)
   obtain ⟨ob, pr, hm⟩ := bnd hm
   refine qz [] rfl (eC Xai rfl (Qgw pr (Own.rd sM))) ⟨fun _ => tk0, trivial⟩ ?_
   rintro _ CK ⟨gq, gs, gu, gv, gw, gx, ep, er, es, rfl, bO, ae, bP, af, a9, F, mh, mj, ml, kY⟩
   refine kG kY ?_
   have sN := Gr.trans (Gr.trans (Gr.trans kW iE) eo) kY
   have iG := ((Kp.refl ([]) a1).gr sN)
   refine dn 0 rfl rfl iG<|dn 0 rfl rfl iG<|dn 0 rfl rfl iG ?_
   have zM := Gr.trans (Gr.trans iE eo) kY
   have sO := (gj.gr zM)
   refine qz [(1, T)] rfl (Qaj Qcr rfl rfl (Qai.cs_ones _ _ _ _ (Own.oneB bO) (Own.oneB bP) (Own.oneB a9)) sO rfl rfl) ⟨fun _ => tk0, trivial⟩ ?_
   rintro _ sP ⟨pt, cP⟩
   refine kM cP ?_
   have sQ := (iG.md cP)
   refine dn 0 rfl rfl sQ<|Qa9 ?_
   have K_704 : Kz [] i sP := (((Kz.gr (Kz.refl _ _) aI).gr sN).md cP)
   have sR := (bO.md cP (Qd7 ae))
   have sS := (bP.md cP (Qd7 af))
   have sT := (a9.md cP (Qd7 F))
   exact ⟨rfl, ⟨ob.2, ob.1, T, gq, gs, gu, gv, gw, gx, ep, er, es⟩, sbq, hm, sR, ⟨(Qbs (A := (fun x => i.heap.size ≤ x)) ae)⟩, sS, ⟨(Qbs (A := (fun x => i.heap.size ≤ x)) af)⟩, sT, ⟨(Qbs (A := (fun x => i.heap.size ≤ x)) F)⟩, pt, (by omega), ⟨(tk1 mh.o)⟩, ⟨(tk1 mj.o)⟩, ⟨(tk1 ml.o)⟩, ⟨(Qbs (A := (fun x => x ≠ T)) ae)⟩, ⟨(Qbs (A := (fun x => x ≠ T)) af)⟩, ⟨(Qbs (A := (fun x => x ≠ T)) F)⟩, K_704⟩
 clear hm; rintro ⟨dS, aP, bq13, vy15, zy15, gy15, vy16, zy16, gy16, vy17, zy17, gy17⟩ c ⟨hm, aJ, yy, aK, yz, aL, yA, iH, yB, yC, yD, sU, sV, sW, sX, mm⟩
 unfold Ql0 at hm
 have zN := (zs.kz mm)
 refine qj (β := Int × Qai × Nat × Value × Nat × Nat × Value × Nat × Nat × Value × Nat × Nat) ([4, 13] ++ rg 93 8) (fun ⟨gy, bu, bq19, vy21, zy21, gy21, vy22, zy22, gy22, vy23, zy23, gy23⟩ => [(4, .int .i64 gy), (13, .pointer (some ⟨bq19, 0, none⟩))]) (fun ⟨gy, bu, bq19, vy21, zy21, gy21, vy22, zy22, gy22, vy23, zy23, gy23⟩ wr => (Qnr dS aP gy bu = some r) ∧ Own wr zy21 gy21 133 18 vy21 (bu.Head.Items.map Qcc.cs) ∧ Hdn (zy21 = 0 ∨ c.heap.size ≤ gy21) ∧ Own wr zy22 gy22 31 2 vy22 (bu.Head.Points.map Qah.cs) ∧ Hdn (zy22 = 0 ∨ c.heap.size ≤ gy22) ∧ Own wr zy23 gy23 5 1 vy23 (bu.Data.map bvc) ∧ Hdn (zy23 = 0 ∨ c.heap.size ≤ gy23) ∧ Bx wr bq19 52 (Qai.cs bu vy21 vy22 vy23) ∧ c.heap.size ≤ bq19 ∧ Hdn (zy22 = 0 ∨ zy21 = 0 ∨ gy22 ≠ gy21) ∧ Hdn (zy23 = 0 ∨ zy21 = 0 ∨ gy23 ≠ gy21) ∧ Hdn (zy23 = 0 ∨ zy22 = 0 ∨ gy23 ≠ gy22) ∧ Hdn (zy21 = 0 ∨ gy21 ≠ bq19) ∧ Hdn (zy22 = 0 ∨ gy22 ≠ bq19) ∧ Hdn (zy23 = 0 ∨ gy23 ≠ bq19) ∧ Kz [] c wr) ?_ ?_
 · refine dw [([])] [] (.fork [(0,10)] (.fork [(1,0)] (.fork [(2,0)] (.fork [(3,0)] (.leaf [(4,0),(5,10),(6,10),(7,10),(8,0),(9,0),(10,10)]) (.leaf [(8,0),(4,0),(5,10),(6,10),(7,10),(9,0),(10,10)])) (.leaf [(8,0),(3,0),(4,0),(5,10),(6,10),(7,10),(9,0),(10,10)])) (.leaf [(8,0),(2,0),(3,0),(4,0),(5,10),(6,10),(7,10),(9,0),(10,10)])) (.fork [] (.fork [(2,0)] (.fork [(1,0)] (.fork [(3,0)] (.leaf [(4,0),(5,10),(6,10),(7,10),(8,0),(9,0),(10,10)]) (.leaf [(8,0),(4,0),(5,10),(6,10),(7,10),(9,0),(10,10)])) (.leaf [(8,0),(3,0),(4,0),(5,10),(6,10),(7,10),(9,0),(10,10)])) (.fork [] (.fork [(3,0)] (.fork [(1,0)] (.leaf [(4,0),(5,10),(6,10),(7,10),(8,0),(9,0),(10,10)]) (.leaf [(8,0),(4,0),(5,10),(6,10),(7,10),(9,0),(10,10)])) (.leaf [(8,0),(1,0),(4,0),(5,10),(6,10),(7,10),(9,0),(10,10)])) (.fork [(8,0)] (.leaf [(1,0),(3,0),(4,0),(5,10),(6,10),(7,10),(9,0),(10,10)]) (.leaf [(3,0),(1,0),(4,0),(5,10),(6,10),(7,10),(9,0),(10,10)])))) (.fork [(8,0)] (.leaf [(1,0),(2,0),(3,0),(4,0),(5,10),(6,10),(7,10),(9,0),(10,10)]) (.fork [(2,0)] (.leaf [(1,0),(3,0),(4,0),(5,10),(6,10),(7,10),(9,0),(10,10)]) (.leaf [(3,0),(1,0),(4,0),(5,10),(6,10),(7,10),(9,0),(10,10)]))))) ?_
   intro d n zO
   refine Qbc ?_
   have sY := ((ip.kz mm).gr n)
   refine dh 0 rfl rfl (fun w hS => Qa4 Qak rfl (Bx.kp sY hS) rfl)<|Qbt ?_ (Qbc (Qbt ?_ ?_))
   · refine Qbc ?_
     obtain ⟨EN, sZ, hm⟩ := bnd hm
     refine qz [] rfl (eC Qke rfl (Qbb sZ)) ⟨fun _ => tk0, trivial⟩ ?_
     rintro _ CL ⟨rfl, ba⟩
     have CM := ba.size
     refine kG ba<|Qbt ?_ ?_
     · refine Qbc<|qz [] rfl (Qdk [97#8, 98#8, 99#8] bvc Qsj rfl rfl (Qjr rfl) rfl rfl rfl) ⟨fun _ => tk0, trivial⟩ ?_
       rintro zP CN ⟨s, yE, gz, cQ⟩
       have CO := cQ.size
       have pu := gz.lth
       refine kG cQ<|Qbt ?_ ?_
       · refine Qbc<|qz [(1, s)] rfl (Qq0 Tryz.underlying50 Tryz.underlying5 rfl gz) ⟨fun _ => (tk1 ((.inr tk0) : 1 = 0 ∨ d.heap.size ≤ s)), trivial⟩ ?_
         rintro zQ CP ⟨kZ, aQ⟩
         have CQ := aQ.size
         refine ⟨Kz.ofKa aQ, ?_⟩
         refine Qbt ?_ ?_
         · refine Qal ?_
           obtain ⟨s0, s1, hm⟩ := bnd hm
           refine qz [] rfl (eC Qrl rfl (Qc1 s1 kZ)) ⟨fun _ => tk0, trivial⟩ ?_
           rintro _ CR ⟨gA, gB, gC, gD, gE, gF, et, eu, ew, rfl, bQ, gG, bR, gH, bb, ex, mn, mo, mp, iI⟩
           have CS := iI.size
           have la := bQ.lth
           have lb := bR.lth
           have lc := bb.lth
           refine kG iI ?_
           have s2 := Gr.trans ba cQ
           have iJ := ((((Kp.refl ([]) d).gr s2).ka aQ (tk1 ((.inr tk0) : 1 = 0 ∨ d.heap.size ≤ s))).gr iI)
           refine dn 0 rfl rfl iJ<|dn 0 rfl rfl iJ<|dn 0 rfl rfl iJ<|qz [] rfl (Qa8 (cs := Qai.cs (Qai.mk 0#8 0 (Qaa.mk [] 0#64 [] k0 k0) 0#8 0#64 [] k0) (.slice none 0 0) (.slice none 0 0) (.slice none 0 0)) Qm4 rfl) ⟨fun _ => tk0, trivial⟩ ?_
           rintro _ CT ⟨ey, rfl, yF, pw, cR⟩
           refine kG cR ?_
           have oc := (bQ.gr cR)
           have oe := (bR.gr cR)
           have og := (bb.gr cR)
           refine qz [(1, ey)] rfl (Qaj Qcr rfl rfl (Qai.cs_ones _ _ _ _ (Own.oneB oc) (Own.oneB oe) (Own.oneB og)) pw rfl rfl) ⟨fun _ => tk0, trivial⟩ ?_
           rintro _ s3 ⟨px, cS⟩
           refine kM cS ?_
           have s4 := ((iJ.gr cR).md cS)
           refine dn 0 rfl rfl s4<|Qa9 ?_
           have K_326 : Kz [] c s3 := ((((((Kz.gr (Kz.refl _ _) n).gr s2).ka aQ (tk1 ((.inr tk0) : 1 = 0 ∨ c.heap.size ≤ s))).gr iI).gr cR).md cS)
           have s5 := (oc.md cS (Qau la))
           have s6 := (oe.md cS (Qau lb))
           have s7 := (og.md cS (Qau lc))
           exact ⟨rfl, ⟨s0.2, s0.1, ey, gA, gB, gC, gD, gE, gF, et, eu, ew⟩, sbq, hm, s5, ⟨(Qbs (A := (fun x => c.heap.size ≤ x)) gG)⟩, s6, ⟨(Qbs (A := (fun x => c.heap.size ≤ x)) gH)⟩, s7, ⟨(Qbs (A := (fun x => c.heap.size ≤ x)) ex)⟩, px, (by omega), ⟨(tk1 mn.o)⟩, ⟨(tk1 mo.o)⟩, ⟨(tk1 mp.o)⟩, ⟨(Qlf (A := (fun x => x ≠ ey)) la)⟩, ⟨(Qlf (A := (fun x => x ≠ ey)) lb)⟩, ⟨(Qlf (A := (fun x => x ≠ ey)) lc)⟩, K_326⟩
         refine Qal<|qz [] rfl (Qa8 (cs := Qai.cs (Qai.mk 0#8 0 (Qaa.mk [] 0#64 [] k0 k0) 0#8 0#64 [] k0) (.slice none 0 0) (.slice none 0 0) (.slice none 0 0)) Qm4 rfl) ⟨fun _ => tk0, trivial⟩ ?_
         rintro _ CU ⟨ez, rfl, yG, ld, iK⟩
         have zR := ld.lt
         refine kG iK ?_
         have s8 := (kZ.gr iK)
         obtain ⟨s9, ta, hm⟩ := bnd hm
         refine qz [] rfl (eC Qrl rfl (Qc1 ta s8)) ⟨fun _ => tk0, trivial⟩ ?_
         rintro _ CW ⟨gI, gJ, gK, gL, gM, gN, eA, eB, eD, rfl, bS, ag, bT, ah, bc, G, mq, mr, ms, iL⟩
         refine kG iL ?_
         have tb := Gr.trans ba cQ
         have iM := (((((Kp.refl ([]) d).gr tb).ka aQ (tk1 ((.inr tk0) : 1 = 0 ∨ d.heap.size ≤ s))).gr iK).gr iL)
         refine dn 0 rfl rfl iM<|dn 0 rfl rfl iM<|dn 0 rfl rfl iM ?_
         have tc := (ld.gr iL)
         refine qz [(1, ez)] rfl (Qaj Qcr rfl rfl (Qai.cs_ones _ _ _ _ (Own.oneB bS) (Own.oneB bT) (Own.oneB bc)) tc rfl rfl) ⟨fun _ => tk0, trivial⟩ ?_
         rintro _ td ⟨py, cT⟩
         refine kM cT ?_
         have te := (iM.md cT)
         refine dn 0 rfl rfl te<|Qa9 ?_
         have K_341 : Kz [] c td := ((((((Kz.gr (Kz.refl _ _) n).gr tb).ka aQ (tk1 ((.inr tk0) : 1 = 0 ∨ c.heap.size ≤ s))).gr iK).gr iL).md cT)
         have tf := (bS.md cT (Qd7 ag))
         have tg := (bT.md cT (Qd7 ah))
         have th := (bc.md cT (Qd7 G))
         exact ⟨rfl, ⟨s9.2, s9.1, ez, gI, gJ, gK, gL, gM, gN, eA, eB, eD⟩, sbq, hm, tf, ⟨(Qbs (A := (fun x => c.heap.size ≤ x)) ag)⟩, tg, ⟨(Qbs (A := (fun x => c.heap.size ≤ x)) ah)⟩, th, ⟨(Qbs (A := (fun x => c.heap.size ≤ x)) G)⟩, py, (by omega), ⟨(tk1 mq.o)⟩, ⟨(tk1 mr.o)⟩, ⟨(tk1 ms.o)⟩, ⟨(Qbs (A := (fun x => x ≠ ez)) ag)⟩, ⟨(Qbs (A := (fun x => x ≠ ez)) ah)⟩, ⟨(Qbs (A := (fun x => x ≠ ez)) G)⟩, K_341⟩
       refine Qal<|qz [] rfl (Qa8 (cs := Qai.cs (Qai.mk 0#8 0 (Qaa.mk [] 0#64 [] k0 k0) 0#8 0#64 [] k0) (.slice none 0 0) (.slice none 0 0) (.slice none 0 0)) Qm4 rfl) ⟨fun _ => tk0, trivial⟩ ?_
       rintro _ CX ⟨cU, rfl, yH, lf, iN⟩
       have zS := lf.lt
       refine kG iN ?_
       have ti := (gz.gr iN)
       refine qz [(1, s)] rfl (Qq0 Tryz.underlying50 Tryz.underlying5 rfl ti) ⟨fun _ => (tk1 ((.inr tk0) : 1 = 0 ∨ d.heap.size ≤ s)), trivial⟩ ?_
       rintro zT CY ⟨pz, bU⟩
       have CZ := bU.size
       refine ⟨Kz.ofKa bU, ?_⟩
       obtain ⟨tj, tk, hm⟩ := bnd hm
       refine qz [] rfl (eC Qrl rfl (Qc1 tk pz)) ⟨fun _ => tk0, trivial⟩ ?_
       rintro _ C0 ⟨gO, gP, gQ, gR, gS, gT, eE, eF, eG, rfl, bV, ai, bW, aj, bd, H, mt, mu, mv, iO⟩
       refine kG iO ?_
       have iP := ((((((Kp.refl ([]) d).gr ba).gr cQ).gr iN).ka bU (tk1 ((.inr tk0) : 1 = 0 ∨ d.heap.size ≤ s))).gr iO)
       refine dn 0 rfl rfl iP<|dn 0 rfl rfl iP<|dn 0 rfl rfl iP ?_
       have tl := ((lf.ka bU (tk1 (Qau (b := cU) pu))).gr iO)
       refine qz [(1, cU)] rfl (Qaj Qcr rfl rfl (Qai.cs_ones _ _ _ _ (Own.oneB bV) (Own.oneB bW) (Own.oneB bd)) tl rfl rfl) ⟨fun _ => tk0, trivial⟩ ?_
       rintro _ tm ⟨pA, cV⟩
       refine kM cV ?_
       have tn := (iP.md cV)
       refine dn 0 rfl rfl tn<|Qa9 ?_
       have K_358 : Kz [] c tm := (((((((Kz.gr (Kz.refl _ _) n).gr ba).gr cQ).gr iN).ka bU (tk1 ((.inr tk0) : 1 = 0 ∨ c.heap.size ≤ s))).gr iO).md cV)
       have tp := (bV.md cV (Qd7 ai))
       have tq := (bW.md cV (Qd7 aj))
       have tr := (bd.md cV (Qd7 H))
       exact ⟨rfl, ⟨tj.2, tj.1, cU, gO, gP, gQ, gR, gS, gT, eE, eF, eG⟩, sbq, hm, tp, ⟨(Qbs (A := (fun x => c.heap.size ≤ x)) ai)⟩, tq, ⟨(Qbs (A := (fun x => c.heap.size ≤ x)) aj)⟩, tr, ⟨(Qbs (A := (fun x => c.heap.size ≤ x)) H)⟩, pA, (by omega), ⟨(tk1 mt.o)⟩, ⟨(tk1 mu.o)⟩, ⟨(tk1 mv.o)⟩, ⟨(Qbs (A := (fun x => x ≠ cU)) ai)⟩, ⟨(Qbs (A := (fun x => x ≠ cU)) aj)⟩, ⟨(Qbs (A := (fun x => x ≠ cU)) H)⟩, K_358⟩
     refine Qal<|qz [] rfl (Qa8 (cs := Qai.cs (Qai.mk 0#8 0 (Qaa.mk [] 0#64 [] k0 k0) 0#8 0#64 [] k0) (.slice none 0 0) (.slice none 0 0) (.slice none 0 0)) Qm4 rfl) ⟨fun _ => tk0, trivial⟩ ?_
     rintro _ C1 ⟨cW, rfl, yI, lh, li⟩
     have zU := lh.lt
     refine kG li<|qz [] rfl (Qdk [97#8, 98#8, 99#8] bvc Qsj rfl rfl (Qjr rfl) rfl rfl rfl) ⟨fun _ => tk0, trivial⟩ ?_
     rintro zV C2 ⟨bX, yJ, pB, eH⟩
     have C3 := eH.size
     refine kG eH<|qz [(1, bX)] rfl (Qq0 Tryz.underlying50 Tryz.underlying5 rfl pB) ⟨fun _ => (tk1 ((.inr tk0) : 1 = 0 ∨ d.heap.size ≤ bX)), trivial⟩ ?_
     rintro zW C4 ⟨pC, bY⟩
     have C5 := bY.size
     refine ⟨Kz.ofKa bY, ?_⟩
     obtain ⟨ts, tt, hm⟩ := bnd hm
     refine qz [] rfl (eC Qrl rfl (Qc1 tt pC)) ⟨fun _ => tk0, trivial⟩ ?_
     rintro _ C6 ⟨gU, gV, gW, gX, gY, gZ, eI, eJ, eK, rfl, bZ, ak, b0, al, be, I, mw, mx, my, iQ⟩
     refine kG iQ ?_
     have iR := ((((((Kp.refl ([]) d).gr ba).gr li).gr eH).ka bY (tk1 ((.inr tk0) : 1 = 0 ∨ d.heap.size ≤ bX))).gr iQ)
     refine dn 0 rfl rfl iR<|dn 0 rfl rfl iR<|dn 0 rfl rfl iR ?_
     have tu := (((lh.gr eH).ka bY (tk1 ((.inr tk0) : 1 = 0 ∨ bX ≠ cW))).gr iQ)
     refine qz [(1, cW)] rfl (Qaj Qcr rfl rfl (Qai.cs_ones _ _ _ _ (Own.oneB bZ) (Own.oneB b0) (Own.oneB be)) tu rfl rfl) ⟨fun _ => tk0, trivial⟩ ?_
     rintro _ tv ⟨pD, cX⟩
     refine kM cX ?_
     have tw := (iR.md cX)
     refine dn 0 rfl rfl tw<|Qa9 ?_
     have K_376 : Kz [] c tv := (((((((Kz.gr (Kz.refl _ _) n).gr ba).gr li).gr eH).ka bY (tk1 ((.inr tk0) : 1 = 0 ∨ c.heap.size ≤ bX))).gr iQ).md cX)
     have tx := (bZ.md cX (Qd7 ak))
     have ty := (b0.md cX (Qd7 al))
     have tz := (be.md cX (Qd7 I))
     exact ⟨rfl, ⟨ts.2, ts.1, cW, gU, gV, gW, gX, gY, gZ, eI, eJ, eK⟩, sbq, hm, tx, ⟨(Qbs (A := (fun x => c.heap.size ≤ x)) ak)⟩, ty, ⟨(Qbs (A := (fun x => c.heap.size ≤ x)) al)⟩, tz, ⟨(Qbs (A := (fun x => c.heap.size ≤ x)) I)⟩, pD, (by omega), ⟨(tk1 mw.o)⟩, ⟨(tk1 mx.o)⟩, ⟨(tk1 my.o)⟩, ⟨(Qbs (A := (fun x => x ≠ cW)) ak)⟩, ⟨(Qbs (A := (fun x => x ≠ cW)) al)⟩, ⟨(Qbs (A := (fun x => x ≠ cW)) I)⟩, K_376⟩
   · refine Qbc<|qz [] rfl (Qdk [97#8, 98#8, 99#8] bvc Qsj rfl rfl (Qjr rfl) rfl rfl rfl) ⟨fun _ => tk0, trivial⟩ ?_
     rintro zX C7 ⟨f, yK, aR, q⟩
     have C8 := q.size
     have g0 := aR.lth
     refine kG q<|Qbt ?_ (Qbc (Qbt ?_ ?_))
     · refine Qbc ?_
       obtain ⟨EO, tA, hm⟩ := bnd hm
       refine qz [] rfl (eC Qke rfl (Qbb tA)) ⟨fun _ => tk0, trivial⟩ ?_
       rintro _ C9 ⟨rfl, bf⟩
       have Da := bf.size
       refine kG bf<|Qbt ?_ ?_
       · refine Qbc ?_
         have tB := (aR.gr bf)
         refine qz [(1, f)] rfl (Qq0 Tryz.underlying50 Tryz.underlying5 rfl tB) ⟨fun _ => (tk1 ((.inr tk0) : 1 = 0 ∨ d.heap.size ≤ f)), trivial⟩ ?_
         rintro zY Db ⟨lj, aS⟩
         have Dc := aS.size
         refine ⟨Kz.ofKa aS, ?_⟩
         refine Qbt ?_ ?_
         · refine Qal ?_
           obtain ⟨tC, tD, hm⟩ := bnd hm
           refine qz [] rfl (eC Qrl rfl (Qc1 tD lj)) ⟨fun _ => tk0, trivial⟩ ?_
           rintro _ Dd ⟨g1, g2, g3, g4, g5, g6, eL, eM, eN, rfl, b1, g7, b2, g8, bg, eO, mz, mA, mB, iS⟩
           have De := iS.size
           have ll := b1.lth
           have lm := b2.lth
           have ln := bg.lth
           refine kG iS ?_
           have tE := Gr.trans q bf
           have iU := ((((Kp.refl ([]) d).gr tE).ka aS (tk1 ((.inr tk0) : 1 = 0 ∨ d.heap.size ≤ f))).gr iS)
           refine dn 0 rfl rfl iU<|dn 0 rfl rfl iU<|dn 0 rfl rfl iU<|qz [] rfl (Qa8 (cs := Qai.cs (Qai.mk 0#8 0 (Qaa.mk [] 0#64 [] k0 k0) 0#8 0#64 [] k0) (.slice none 0 0) (.slice none 0 0) (.slice none 0 0)) Qm4 rfl) ⟨fun _ => tk0, trivial⟩ ?_
           rintro _ Dg ⟨eP, rfl, yL, pE, cY⟩
           refine kG cY ?_
           have oh := (b1.gr cY)
           have oi := (b2.gr cY)
           have oj := (bg.gr cY)
           refine qz [(1, eP)] rfl (Qaj Qcr rfl rfl (Qai.cs_ones _ _ _ _ (Own.oneB oh) (Own.oneB oi) (Own.oneB oj)) pE rfl rfl) ⟨fun _ => tk0, trivial⟩ ?_
           rintro _ tF ⟨pF, cZ⟩
           refine kM cZ ?_
           have tG := ((iU.gr cY).md cZ)
           refine dn 0 rfl rfl tG<|Qa9 ?_
           have K_398 : Kz [] c tF := ((((((Kz.gr (Kz.refl _ _) n).gr tE).ka aS (tk1 ((.inr tk0) : 1 = 0 ∨ c.heap.size ≤ f))).gr iS).gr cY).md cZ)
           have tH := (oh.md cZ (Qau ll))
           have tI := (oi.md cZ (Qau lm))
           have tJ := (oj.md cZ (Qau ln))
           exact ⟨rfl, ⟨tC.2, tC.1, eP, g1, g2, g3, g4, g5, g6, eL, eM, eN⟩, sbq, hm, tH, ⟨(Qbs (A := (fun x => c.heap.size ≤ x)) g7)⟩, tI, ⟨(Qbs (A := (fun x => c.heap.size ≤ x)) g8)⟩, tJ, ⟨(Qbs (A := (fun x => c.heap.size ≤ x)) eO)⟩, pF, (by omega), ⟨(tk1 mz.o)⟩, ⟨(tk1 mA.o)⟩, ⟨(tk1 mB.o)⟩, ⟨(Qlf (A := (fun x => x ≠ eP)) ll)⟩, ⟨(Qlf (A := (fun x => x ≠ eP)) lm)⟩, ⟨(Qlf (A := (fun x => x ≠ eP)) ln)⟩, K_398⟩
         refine Qal<|qz [] rfl (Qa8 (cs := Qai.cs (Qai.mk 0#8 0 (Qaa.mk [] 0#64 [] k0 k0) 0#8 0#64 [] k0) (.slice none 0 0) (.slice none 0 0) (.slice none 0 0)) Qm4 rfl) ⟨fun _ => tk0, trivial⟩ ?_
         rintro _ Dh ⟨eQ, rfl, yM, lo, iV⟩
         have zZ := lo.lt
         refine kG iV ?_
         have tK := (lj.gr iV)
         obtain ⟨tL, tM, hm⟩ := bnd hm
         refine qz [] rfl (eC Qrl rfl (Qc1 tM tK)) ⟨fun _ => tk0, trivial⟩ ?_
         rintro _ Di ⟨g9, ha, hb, hc, hd, he, eR, eS, eT, rfl, b3, am, b4, an, bh, J, mC, mD, mE, iW⟩
         refine kG iW ?_
         have tN := Gr.trans q bf
         have iX := (((((Kp.refl ([]) d).gr tN).ka aS (tk1 ((.inr tk0) : 1 = 0 ∨ d.heap.size ≤ f))).gr iV).gr iW)
         refine dn 0 rfl rfl iX<|dn 0 rfl rfl iX<|dn 0 rfl rfl iX ?_
         have tO := (lo.gr iW)
         refine qz [(1, eQ)] rfl (Qaj Qcr rfl rfl (Qai.cs_ones _ _ _ _ (Own.oneB b3) (Own.oneB b4) (Own.oneB bh)) tO rfl rfl) ⟨fun _ => tk0, trivial⟩ ?_
         rintro _ tP ⟨pG, c0⟩
         refine kM c0 ?_
         have tQ := (iX.md c0)
         refine dn 0 rfl rfl tQ<|Qa9 ?_
         have K_413 : Kz [] c tP := ((((((Kz.gr (Kz.refl _ _) n).gr tN).ka aS (tk1 ((.inr tk0) : 1 = 0 ∨ c.heap.size ≤ f))).gr iV).gr iW).md c0)
         have tR := (b3.md c0 (Qd7 am))
         have tS := (b4.md c0 (Qd7 an))
         have tT := (bh.md c0 (Qd7 J))
         exact ⟨rfl, ⟨tL.2, tL.1, eQ, g9, ha, hb, hc, hd, he, eR, eS, eT⟩, sbq, hm, tR, ⟨(Qbs (A := (fun x => c.heap.size ≤ x)) am)⟩, tS, ⟨(Qbs (A := (fun x => c.heap.size ≤ x)) an)⟩, tT, ⟨(Qbs (A := (fun x => c.heap.size ≤ x)) J)⟩, pG, (by omega), ⟨(tk1 mC.o)⟩, ⟨(tk1 mD.o)⟩, ⟨(tk1 mE.o)⟩, ⟨(Qbs (A := (fun x => x ≠ eQ)) am)⟩, ⟨(Qbs (A := (fun x => x ≠ eQ)) an)⟩, ⟨(Qbs (A := (fun x => x ≠ eQ)) J)⟩, K_413⟩
       refine Qal<|qz [] rfl (Qa8 (cs := Qai.cs (Qai.mk 0#8 0 (Qaa.mk [] 0#64 [] k0 k0) 0#8 0#64 [] k0) (.slice none 0 0) (.slice none 0 0) (.slice none 0 0)) Qm4 rfl) ⟨fun _ => tk0, trivial⟩ ?_
       rintro _ Dj ⟨da, rfl, yN, lp, iY⟩
       have z0 := lp.lt
       refine kG iY ?_
       have tU := ((aR.gr bf).gr iY)
       refine qz [(1, f)] rfl (Qq0 Tryz.underlying50 Tryz.underlying5 rfl tU) ⟨fun _ => (tk1 ((.inr tk0) : 1 = 0 ∨ d.heap.size ≤ f)), trivial⟩ ?_
       rintro z7 Dk ⟨pH, b5⟩
       have Dl := b5.size
       refine ⟨Kz.ofKa b5, ?_⟩
       obtain ⟨tV, tW, hm⟩ := bnd hm
       refine qz [] rfl (eC Qrl rfl (Qc1 tW pH)) ⟨fun _ => tk0, trivial⟩ ?_
       rintro _ Dm ⟨hf, hg, hh, hi, hj, hk, eU, eV, eW, rfl, b6, ao, b7, ap, bi, K, mF, mG, mH, iZ⟩
       refine kG iZ ?_
       have i0 := ((((((Kp.refl ([]) d).gr q).gr bf).gr iY).ka b5 (tk1 ((.inr tk0) : 1 = 0 ∨ d.heap.size ≤ f))).gr iZ)
       refine dn 0 rfl rfl i0<|dn 0 rfl rfl i0<|dn 0 rfl rfl i0 ?_
       have tX := ((lp.ka b5 (tk1 (Qau (b := da) g0))).gr iZ)
       refine qz [(1, da)] rfl (Qaj Qcr rfl rfl (Qai.cs_ones _ _ _ _ (Own.oneB b6) (Own.oneB b7) (Own.oneB bi)) tX rfl rfl) ⟨fun _ => tk0, trivial⟩ ?_
       rintro _ tY ⟨pI, db⟩
       refine kM db ?_
       have tZ := (i0.md db)
       refine dn 0 rfl rfl tZ<|Qa9 ?_
       have K_430 : Kz [] c tY := (((((((Kz.gr (Kz.refl _ _) n).gr q).gr bf).gr iY).ka b5 (tk1 ((.inr tk0) : 1 = 0 ∨ c.heap.size ≤ f))).gr iZ).md db)
       have t0 := (b6.md db (Qd7 ao))
       have t1 := (b7.md db (Qd7 ap))
       have t2 := (bi.md db (Qd7 K))
       exact ⟨rfl, ⟨tV.2, tV.1, da, hf, hg, hh, hi, hj, hk, eU, eV, eW⟩, sbq, hm, t0, ⟨(Qbs (A := (fun x => c.heap.size ≤ x)) ao)⟩, t1, ⟨(Qbs (A := (fun x => c.heap.size ≤ x)) ap)⟩, t2, ⟨(Qbs (A := (fun x => c.heap.size ≤ x)) K)⟩, pI, (by omega), ⟨(tk1 mF.o)⟩, ⟨(tk1 mG.o)⟩, ⟨(tk1 mH.o)⟩, ⟨(Qbs (A := (fun x => x ≠ da)) ao)⟩, ⟨(Qbs (A := (fun x => x ≠ da)) ap)⟩, ⟨(Qbs (A := (fun x => x ≠ da)) K)⟩, K_430⟩
     · refine Qbc<|qz [(1, f)] rfl (Qq0 Tryz.underlying50 Tryz.underlying5 rfl aR) ⟨fun _ => (tk1 ((.inr tk0) : 1 = 0 ∨ d.heap.size ≤ f)), trivial⟩ ?_
       rintro Aa Dn ⟨hl, L⟩
       have Do := L.size
       refine ⟨Kz.ofKa L, ?_⟩
       refine Qbt ?_ ?_
       · refine Qbc ?_
         obtain ⟨EP, t3, hm⟩ := bnd hm
         refine qz [] rfl (eC Qke rfl (Qbb t3)) ⟨fun _ => tk0, trivial⟩ ?_
         rintro _ Dp ⟨rfl, bj⟩
         have Dq := bj.size
         refine kG bj<|Qbt ?_ ?_
         · refine Qal ?_
           have t4 := (hl.gr bj)
           obtain ⟨t5, t6, hm⟩ := bnd hm
           refine qz [] rfl (eC Qrl rfl (Qc1 t6 t4)) ⟨fun _ => tk0, trivial⟩ ?_
           rintro _ Ds ⟨hn, ho, hp, hq, hr, ht, eX, eY, eZ, rfl, b8, hu, b9, hw, bk, e0, mI, mJ, mK, i1⟩
           have Dt := i1.size
           have lq := b8.lth
           have lr := b9.lth
           have ls := bk.lth
           refine kG i1 ?_
           have i2 := (((((Kp.refl ([]) d).gr q).ka L (tk1 ((.inr tk0) : 1 = 0 ∨ d.heap.size ≤ f))).gr bj).gr i1)
           refine dn 0 rfl rfl i2<|dn 0 rfl rfl i2<|dn 0 rfl rfl i2<|qz [] rfl (Qa8 (cs := Qai.cs (Qai.mk 0#8 0 (Qaa.mk [] 0#64 [] k0 k0) 0#8 0#64 [] k0) (.slice none 0 0) (.slice none 0 0) (.slice none 0 0)) Qm4 rfl) ⟨fun _ => tk0, trivial⟩ ?_
           rintro _ Du ⟨e1, rfl, yO, pJ, dc⟩
           refine kG dc ?_
           have ol := (b8.gr dc)
           have om := (b9.gr dc)
           have oo := (bk.gr dc)
           refine qz [(1, e1)] rfl (Qaj Qcr rfl rfl (Qai.cs_ones _ _ _ _ (Own.oneB ol) (Own.oneB om) (Own.oneB oo)) pJ rfl rfl) ⟨fun _ => tk0, trivial⟩ ?_
           rintro _ t7 ⟨pK, de⟩
           refine kM de ?_
           have t8 := ((i2.gr dc).md de)
           refine dn 0 rfl rfl t8<|Qa9 ?_
           have K_450 : Kz [] c t7 := (((((((Kz.gr (Kz.refl _ _) n).gr q).ka L (tk1 ((.inr tk0) : 1 = 0 ∨ c.heap.size ≤ f))).gr bj).gr i1).gr dc).md de)
           have t9 := (ol.md de (Qau lq))
           have ua := (om.md de (Qau lr))
           have ub := (oo.md de (Qau ls))
           exact ⟨rfl, ⟨t5.2, t5.1, e1, hn, ho, hp, hq, hr, ht, eX, eY, eZ⟩, sbq, hm, t9, ⟨(Qbs (A := (fun x => c.heap.size ≤ x)) hu)⟩, ua, ⟨(Qbs (A := (fun x => c.heap.size ≤ x)) hw)⟩, ub, ⟨(Qbs (A := (fun x => c.heap.size ≤ x)) e0)⟩, pK, (by omega), ⟨(tk1 mI.o)⟩, ⟨(tk1 mJ.o)⟩, ⟨(tk1 mK.o)⟩, ⟨(Qlf (A := (fun x => x ≠ e1)) lq)⟩, ⟨(Qlf (A := (fun x => x ≠ e1)) lr)⟩, ⟨(Qlf (A := (fun x => x ≠ e1)) ls)⟩, K_450⟩
         refine Qal<|qz [] rfl (Qa8 (cs := Qai.cs (Qai.mk 0#8 0 (Qaa.mk [] 0#64 [] k0 k0) 0#8 0#64 [] k0) (.slice none 0 0) (.slice none 0 0) (.slice none 0 0)) Qm4 rfl) ⟨fun _ => tk0, trivial⟩ ?_
         rintro _ Dv ⟨e2, rfl, yP, lu, i3⟩
         have Ab := lu.lt
         refine kG i3 ?_
         have uc := ((hl.gr bj).gr i3)
         obtain ⟨ud, ue, hm⟩ := bnd hm
         refine qz [] rfl (eC Qrl rfl (Qc1 ue uc)) ⟨fun _ => tk0, trivial⟩ ?_
         rintro _ Dw ⟨hx, hy, hz, hA, hB, hC, e3, e4, e5, rfl, ca, aq, cb, ar, bl, M, mL, mM, mN, i4⟩
         refine kG i4 ?_
         have i5 := ((((((Kp.refl ([]) d).gr q).ka L (tk1 ((.inr tk0) : 1 = 0 ∨ d.heap.size ≤ f))).gr bj).gr i3).gr i4)
         refine dn 0 rfl rfl i5<|dn 0 rfl rfl i5<|dn 0 rfl rfl i5 ?_
         have uf := (lu.gr i4)
         refine qz [(1, e2)] rfl (Qaj Qcr rfl rfl (Qai.cs_ones _ _ _ _ (Own.oneB ca) (Own.oneB cb) (Own.oneB bl)) uf rfl rfl) ⟨fun _ => tk0, trivial⟩ ?_
         rintro _ ug ⟨pL, df⟩
         refine kM df ?_
         have uh := (i5.md df)
         refine dn 0 rfl rfl uh<|Qa9 ?_
         have K_465 : Kz [] c ug := (((((((Kz.gr (Kz.refl _ _) n).gr q).ka L (tk1 ((.inr tk0) : 1 = 0 ∨ c.heap.size ≤ f))).gr bj).gr i3).gr i4).md df)
         have ui := (ca.md df (Qd7 aq))
         have uj := (cb.md df (Qd7 ar))
         have uk := (bl.md df (Qd7 M))
         exact ⟨rfl, ⟨ud.2, ud.1, e2, hx, hy, hz, hA, hB, hC, e3, e4, e5⟩, sbq, hm, ui, ⟨(Qbs (A := (fun x => c.heap.size ≤ x)) aq)⟩, uj, ⟨(Qbs (A := (fun x => c.heap.size ≤ x)) ar)⟩, uk, ⟨(Qbs (A := (fun x => c.heap.size ≤ x)) M)⟩, pL, (by omega), ⟨(tk1 mL.o)⟩, ⟨(tk1 mM.o)⟩, ⟨(tk1 mN.o)⟩, ⟨(Qbs (A := (fun x => x ≠ e2)) aq)⟩, ⟨(Qbs (A := (fun x => x ≠ e2)) ar)⟩, ⟨(Qbs (A := (fun x => x ≠ e2)) M)⟩, K_465⟩
       refine Qal<|qz [] rfl (Qa8 (cs := Qai.cs (Qai.mk 0#8 0 (Qaa.mk [] 0#64 [] k0 k0) 0#8 0#64 [] k0) (.slice none 0 0) (.slice none 0 0) (.slice none 0 0)) Qm4 rfl) ⟨fun _ => tk0, trivial⟩ ?_
       rintro _ Dx ⟨e6, rfl, yQ, lv, i6⟩
       have Ac := lv.lt
       refine kG i6 ?_
       obtain ⟨EQ, ul, hm⟩ := bnd hm
       refine qz [] rfl (eC Qke rfl (Qbb ul)) ⟨fun _ => tk0, trivial⟩ ?_
       rintro _ Dy ⟨rfl, dg⟩
       have Dz := dg.size
       refine kG dg ?_
       have um := ((hl.gr i6).gr dg)
       obtain ⟨uo, uq, hm⟩ := bnd hm
       refine qz [] rfl (eC Qrl rfl (Qc1 uq um)) ⟨fun _ => tk0, trivial⟩ ?_
       rintro _ DA ⟨hD, hE, hF, hG, hH, hI, e7, e8, e9, rfl, cc, au, cd, av, bm, N, mO, mP, mQ, i7⟩
       refine kG i7 ?_
       have i8 := ((((((Kp.refl ([]) d).gr q).ka L (tk1 ((.inr tk0) : 1 = 0 ∨ d.heap.size ≤ f))).gr i6).gr dg).gr i7)
       refine dn 0 rfl rfl i8<|dn 0 rfl rfl i8<|dn 0 rfl rfl i8 ?_
       have ur := ((lv.gr dg).gr i7)
       refine qz [(1, e6)] rfl (Qaj Qcr rfl rfl (Qai.cs_ones _ _ _ _ (Own.oneB cc) (Own.oneB cd) (Own.oneB bm)) ur rfl rfl) ⟨fun _ => tk0, trivial⟩ ?_
       rintro _ us ⟨pM, di⟩
       refine kM di ?_
       have ut := (i8.md di)
       refine dn 0 rfl rfl ut<|Qa9 ?_
       have K_481 : Kz [] c us := (((((((Kz.gr (Kz.refl _ _) n).gr q).ka L (tk1 ((.inr tk0) : 1 = 0 ∨ c.heap.size ≤ f))).gr i6).gr dg).gr i7).md di)
       have uu := (cc.md di (Qd7 au))
       have uv := (cd.md di (Qd7 av))
       have uw := (bm.md di (Qd7 N))
       exact ⟨rfl, ⟨uo.2, uo.1, e6, hD, hE, hF, hG, hH, hI, e7, e8, e9⟩, sbq, hm, uu, ⟨(Qbs (A := (fun x => c.heap.size ≤ x)) au)⟩, uv, ⟨(Qbs (A := (fun x => c.heap.size ≤ x)) av)⟩, uw, ⟨(Qbs (A := (fun x => c.heap.size ≤ x)) N)⟩, pM, (by omega), ⟨(tk1 mO.o)⟩, ⟨(tk1 mP.o)⟩, ⟨(tk1 mQ.o)⟩, ⟨(Qbs (A := (fun x => x ≠ e6)) au)⟩, ⟨(Qbs (A := (fun x => x ≠ e6)) av)⟩, ⟨(Qbs (A := (fun x => x ≠ e6)) N)⟩, K_481⟩
     refine Qbc<|qz [] rfl (Qa8 (cs := Qai.cs (Qai.mk 0#8 0 (Qaa.mk [] 0#64 [] k0 k0) 0#8 0#64 [] k0) (.slice none 0 0) (.slice none 0 0) (.slice none 0 0)) Qm4 rfl) ⟨fun _ => tk0, trivial⟩ ?_
     rintro _ DB ⟨y, rfl, yR, hJ, dj⟩
     have Ad := hJ.lt
     refine kG dj<|Qbt ?_ ?_
     · refine Qal ?_
       obtain ⟨ER, ux, hm⟩ := bnd hm
       refine qz [] rfl (eC Qke rfl (Qbb ux)) ⟨fun _ => tk0, trivial⟩ ?_
       rintro _ DC ⟨rfl, dk⟩
       have DD := dk.size
       refine kG dk ?_
       have uy := ((aR.gr dj).gr dk)
       refine qz [(1, f)] rfl (Qq0 Tryz.underlying50 Tryz.underlying5 rfl uy) ⟨fun _ => (tk1 ((.inr tk0) : 1 = 0 ∨ d.heap.size ≤ f)), trivial⟩ ?_
       rintro Ae DE ⟨pN, ce⟩
       have DF := ce.size
       refine ⟨Kz.ofKa ce, ?_⟩
       obtain ⟨uz, uA, hm⟩ := bnd hm
       refine qz [] rfl (eC Qrl rfl (Qc1 uA pN)) ⟨fun _ => tk0, trivial⟩ ?_
       rintro _ DG ⟨hK, hL, hM, hN, hO, hP, fa, fb, fc, rfl, cf, aw, cg, ax, bo, O, mR, mS, mT, i9⟩
       refine kG i9 ?_
       have ja := ((((((Kp.refl ([]) d).gr q).gr dj).gr dk).ka ce (tk1 ((.inr tk0) : 1 = 0 ∨ d.heap.size ≤ f))).gr i9)
       refine dn 0 rfl rfl ja<|dn 0 rfl rfl ja<|dn 0 rfl rfl ja ?_
       have uB := (((hJ.gr dk).ka ce (tk1 (Qau (b := y) g0))).gr i9)
       refine qz [(1, y)] rfl (Qaj Qcr rfl rfl (Qai.cs_ones _ _ _ _ (Own.oneB cf) (Own.oneB cg) (Own.oneB bo)) uB rfl rfl) ⟨fun _ => tk0, trivial⟩ ?_
       rintro _ uC ⟨pO, dl⟩
       refine kM dl ?_
       have uD := (ja.md dl)
       refine dn 0 rfl rfl uD<|Qa9 ?_
       have K_499 : Kz [] c uC := (((((((Kz.gr (Kz.refl _ _) n).gr q).gr dj).gr dk).ka ce (tk1 ((.inr tk0) : 1 = 0 ∨ c.heap.size ≤ f))).gr i9).md dl)
       have uE := (cf.md dl (Qd7 aw))
       have uF := (cg.md dl (Qd7 ax))
       have uG := (bo.md dl (Qd7 O))
       exact ⟨rfl, ⟨uz.2, uz.1, y, hK, hL, hM, hN, hO, hP, fa, fb, fc⟩, sbq, hm, uE, ⟨(Qbs (A := (fun x => c.heap.size ≤ x)) aw)⟩, uF, ⟨(Qbs (A := (fun x => c.heap.size ≤ x)) ax)⟩, uG, ⟨(Qbs (A := (fun x => c.heap.size ≤ x)) O)⟩, pO, (by omega), ⟨(tk1 mR.o)⟩, ⟨(tk1 mS.o)⟩, ⟨(tk1 mT.o)⟩, ⟨(Qbs (A := (fun x => x ≠ y)) aw)⟩, ⟨(Qbs (A := (fun x => x ≠ y)) ax)⟩, ⟨(Qbs (A := (fun x => x ≠ y)) O)⟩, K_499⟩
     refine Qal ?_
     have uH := (aR.gr dj)
     refine qz [(1, f)] rfl (Qq0 Tryz.underlying50 Tryz.underlying5 rfl uH) ⟨fun _ => (tk1 ((.inr tk0) : 1 = 0 ∨ d.heap.size ≤ f)), trivial⟩ ?_
     rintro Af DH ⟨pP, ch⟩
     have DI := ch.size
     refine ⟨Kz.ofKa ch, ?_⟩
     obtain ⟨ES, uI, hm⟩ := bnd hm
     refine qz [] rfl (eC Qke rfl (Qbb uI)) ⟨fun _ => tk0, trivial⟩ ?_
     rintro _ DJ ⟨rfl, dp⟩
     have DK := dp.size
     refine kG dp ?_
     have uJ := (pP.gr dp)
     obtain ⟨uK, uL, hm⟩ := bnd hm
     refine qz [] rfl (eC Qrl rfl (Qc1 uL uJ)) ⟨fun _ => tk0, trivial⟩ ?_
     rintro _ DL ⟨hQ, hR, hT, hU, hV, hW, fd, ff, fg, rfl, ci, ay, cj, az, bp, P, mU, mV, mW, jb⟩
     refine kG jb ?_
     have uM := Gr.trans q dj
     have jc := (((((Kp.refl ([]) d).gr uM).ka ch (tk1 ((.inr tk0) : 1 = 0 ∨ d.heap.size ≤ f))).gr dp).gr jb)
     refine dn 0 rfl rfl jc<|dn 0 rfl rfl jc<|dn 0 rfl rfl jc ?_
     have uN := (((hJ.ka ch (tk1 (Qau (b := y) g0))).gr dp).gr jb)
     refine qz [(1, y)] rfl (Qaj Qcr rfl rfl (Qai.cs_ones _ _ _ _ (Own.oneB ci) (Own.oneB cj) (Own.oneB bp)) uN rfl rfl) ⟨fun _ => tk0, trivial⟩ ?_
     rintro _ uO ⟨pQ, dq⟩
     refine kM dq ?_
     have uP := (jc.md dq)
     refine dn 0 rfl rfl uP<|Qa9 ?_
     have K_516 : Kz [] c uO := ((((((Kz.gr (Kz.refl _ _) n).gr uM).ka ch (tk1 ((.inr tk0) : 1 = 0 ∨ c.heap.size ≤ f))).gr dp).gr jb).md dq)
     have uQ := (ci.md dq (Qd7 ay))
     have uR := (cj.md dq (Qd7 az))
     have uS := (bp.md dq (Qd7 P))
     exact ⟨rfl, ⟨uK.2, uK.1, y, hQ, hR, hT, hU, hV, hW, fd, ff, fg⟩, sbq, hm, uQ, ⟨(Qbs (A := (fun x => c.heap.size ≤ x)) ay)⟩, uR, ⟨(Qbs (A := (fun x => c.heap.size ≤ x)) az)⟩, uS, ⟨(Qbs (A := (fun x => c.heap.size ≤ x)) P)⟩, pQ, (by omega), ⟨(tk1 mU.o)⟩, ⟨(tk1 mV.o)⟩, ⟨(tk1 mW.o)⟩, ⟨(Qbs (A := (fun x => x ≠ y)) ay)⟩, ⟨(Qbs (A := (fun x => x ≠ y)) az)⟩, ⟨(Qbs (A := (fun x => x ≠ y)) P)⟩, K_516⟩
   refine Qbc<|qz [] rfl (Qa8 (cs := Qai.cs (Qai.mk 0#8 0 (Qaa.mk [] 0#64 [] k0 k0) 0#8 0#64 [] k0) (.slice none 0 0) (.slice none 0 0) (.slice none 0 0)) Qm4 rfl) ⟨fun _ => tk0, trivial⟩ ?_
   rintro _ DM ⟨k, rfl, yS, dO, dr⟩
   have Ag := dO.lt
   refine kG dr<|Qbt ?_ ?_
   · refine Qal ?_
     obtain ⟨DN, pR, hm⟩ := bnd hm
     refine qz [] rfl (eC Qke rfl (Qbb pR)) ⟨fun _ => tk0, trivial⟩ ?_
     rintro _ DO ⟨rfl, fh⟩
     have DP := fh.size
     refine kG fh<|qz [] rfl (Qdk [97#8, 98#8, 99#8] bvc Qsj rfl rfl (Qjr rfl) rfl rfl rfl) ⟨fun _ => tk0, trivial⟩ ?_
     rintro Ah DQ ⟨ck, yT, pS, fj⟩
     have DR := fj.size
     refine kG fj<|qz [(1, ck)] rfl (Qq0 Tryz.underlying50 Tryz.underlying5 rfl pS) ⟨fun _ => (tk1 ((.inr tk0) : 1 = 0 ∨ d.heap.size ≤ ck)), trivial⟩ ?_
     rintro Ai DS ⟨pT, cl⟩
     have DT := cl.size
     refine ⟨Kz.ofKa cl, ?_⟩
     obtain ⟨op, pU, hm⟩ := bnd hm
     refine qz [] rfl (eC Qrl rfl (Qc1 pU pT)) ⟨fun _ => tk0, trivial⟩ ?_
     rintro _ DU ⟨hX, hY, hZ, h0, h1, h2, fk, fl, fm, rfl, cm, aA, cn, aB, bq, Q, mX, mY, mZ, jd⟩
     refine kG jd ?_
     have je := ((((((Kp.refl ([]) d).gr dr).gr fh).gr fj).ka cl (tk1 ((.inr tk0) : 1 = 0 ∨ d.heap.size ≤ ck))).gr jd)
     refine dn 0 rfl rfl je<|dn 0 rfl rfl je<|dn 0 rfl rfl je ?_
     have uT := ((((dO.gr fh).gr fj).ka cl (tk1 ((.inr tk0) : 1 = 0 ∨ ck ≠ k))).gr jd)
     refine qz [(1, k)] rfl (Qaj Qcr rfl rfl (Qai.cs_ones _ _ _ _ (Own.oneB cm) (Own.oneB cn) (Own.oneB bq)) uT rfl rfl) ⟨fun _ => tk0, trivial⟩ ?_
     rintro _ uU ⟨pV, ds⟩
     refine kM ds ?_
     have uV := (je.md ds)
     refine dn 0 rfl rfl uV<|Qa9 ?_
     have K_535 : Kz [] c uU := (((((((Kz.gr (Kz.refl _ _) n).gr dr).gr fh).gr fj).ka cl (tk1 ((.inr tk0) : 1 = 0 ∨ c.heap.size ≤ ck))).gr jd).md ds)
     have uW := (cm.md ds (Qd7 aA))
     have uX := (cn.md ds (Qd7 aB))
     have uY := (bq.md ds (Qd7 Q))
     exact ⟨rfl, ⟨op.2, op.1, k, hX, hY, hZ, h0, h1, h2, fk, fl, fm⟩, sbq, hm, uW, ⟨(Qbs (A := (fun x => c.heap.size ≤ x)) aA)⟩, uX, ⟨(Qbs (A := (fun x => c.heap.size ≤ x)) aB)⟩, uY, ⟨(Qbs (A := (fun x => c.heap.size ≤ x)) Q)⟩, pV, (by omega), ⟨(tk1 mX.o)⟩, ⟨(tk1 mY.o)⟩, ⟨(tk1 mZ.o)⟩, ⟨(Qbs (A := (fun x => x ≠ k)) aA)⟩, ⟨(Qbs (A := (fun x => x ≠ k)) aB)⟩, ⟨(Qbs (A := (fun x => x ≠ k)) Q)⟩, K_535⟩
   refine Qbc<|qz [] rfl (Qdk [97#8, 98#8, 99#8] bvc Qsj rfl rfl (Qjr rfl) rfl rfl rfl) ⟨fun _ => tk0, trivial⟩ ?_
   rintro Aj DV ⟨t, yU, lw, co⟩
   have DW := co.size
   refine kG co<|Qbt ?_ ?_
   · refine Qal ?_
     obtain ⟨DX, pW, hm⟩ := bnd hm
     refine qz [] rfl (eC Qke rfl (Qbb pW)) ⟨fun _ => tk0, trivial⟩ ?_
     rintro _ DY ⟨rfl, dt⟩
     have DZ := dt.size
     refine kG dt ?_
     have uZ := (lw.gr dt)
     refine qz [(1, t)] rfl (Qq0 Tryz.underlying50 Tryz.underlying5 rfl uZ) ⟨fun _ => (tk1 ((.inr tk0) : 1 = 0 ∨ d.heap.size ≤ t)), trivial⟩ ?_
     rintro Ak D0 ⟨pX, cp⟩
     have D1 := cp.size
     refine ⟨Kz.ofKa cp, ?_⟩
     obtain ⟨oq, pY, hm⟩ := bnd hm
     refine qz [] rfl (eC Qrl rfl (Qc1 pY pX)) ⟨fun _ => tk0, trivial⟩ ?_
     rintro _ D2 ⟨h3, h4, h5, h6, h7, h8, fn, fo, fp, rfl, cq, aC, cr, aD, br, R, m0, m1, m2, jf⟩
     refine kG jf ?_
     have jg := ((((((Kp.refl ([]) d).gr dr).gr co).gr dt).ka cp (tk1 ((.inr tk0) : 1 = 0 ∨ d.heap.size ≤ t))).gr jf)
     refine dn 0 rfl rfl jg<|dn 0 rfl rfl jg<|dn 0 rfl rfl jg ?_
     have u0 := ((((dO.gr co).gr dt).ka cp (tk1 ((.inr tk0) : 1 = 0 ∨ t ≠ k))).gr jf)
     refine qz [(1, k)] rfl (Qaj Qcr rfl rfl (Qai.cs_ones _ _ _ _ (Own.oneB cq) (Own.oneB cr) (Own.oneB br)) u0 rfl rfl) ⟨fun _ => tk0, trivial⟩ ?_
     rintro _ u1 ⟨pZ, du⟩
     refine kM du ?_
     have u2 := (jg.md du)
     refine dn 0 rfl rfl u2<|Qa9 ?_
     have K_553 : Kz [] c u1 := (((((((Kz.gr (Kz.refl _ _) n).gr dr).gr co).gr dt).ka cp (tk1 ((.inr tk0) : 1 = 0 ∨ c.heap.size ≤ t))).gr jf).md du)
     have u3 := (cq.md du (Qd7 aC))
     have u4 := (cr.md du (Qd7 aD))
     have u5 := (br.md du (Qd7 R))
     exact ⟨rfl, ⟨oq.2, oq.1, k, h3, h4, h5, h6, h7, h8, fn, fo, fp⟩, sbq, hm, u3, ⟨(Qbs (A := (fun x => c.heap.size ≤ x)) aC)⟩, u4, ⟨(Qbs (A := (fun x => c.heap.size ≤ x)) aD)⟩, u5, ⟨(Qbs (A := (fun x => c.heap.size ≤ x)) R)⟩, pZ, (by omega), ⟨(tk1 m0.o)⟩, ⟨(tk1 m1.o)⟩, ⟨(tk1 m2.o)⟩, ⟨(Qbs (A := (fun x => x ≠ k)) aC)⟩, ⟨(Qbs (A := (fun x => x ≠ k)) aD)⟩, ⟨(Qbs (A := (fun x => x ≠ k)) R)⟩, K_553⟩
   refine Qal<|qz [(1, t)] rfl (Qq0 Tryz.underlying50 Tryz.underlying5 rfl lw) ⟨fun _ => (tk1 ((.inr tk0) : 1 = 0 ∨ d.heap.size ≤ t)), trivial⟩ ?_
   rintro Al D3 ⟨p0, ct⟩
   have D4 := ct.size
   refine ⟨Kz.ofKa ct, ?_⟩
   obtain ⟨D5, p1, hm⟩ := bnd hm
   refine qz [] rfl (eC Qke rfl (Qbb p1)) ⟨fun _ => tk0, trivial⟩ ?_
   rintro _ D6 ⟨rfl, dv⟩
   have D7 := dv.size
   refine kG dv ?_
   have u6 := (p0.gr dv)
   obtain ⟨os, p2, hm⟩ := bnd hm
   refine qz [] rfl (eC Qrl rfl (Qc1 p2 u6)) ⟨fun _ => tk0, trivial⟩ ?_
   rintro _ D8 ⟨h9, ia, ib, ie, ig, ih, fq, fr, fs, rfl, cu, aE, cv, aF, bs, S, m3, m4, m5, jh⟩
   refine kG jh ?_
   have u7 := Gr.trans dr co
   have ji := (((((Kp.refl ([]) d).gr u7).ka ct (tk1 ((.inr tk0) : 1 = 0 ∨ d.heap.size ≤ t))).gr dv).gr jh)
   refine dn 0 rfl rfl ji<|dn 0 rfl rfl ji<|dn 0 rfl rfl ji ?_
   have u8 := ((((dO.gr co).ka ct (tk1 ((.inr tk0) : 1 = 0 ∨ t ≠ k))).gr dv).gr jh)
   refine qz [(1, k)] rfl (Qaj Qcr rfl rfl (Qai.cs_ones _ _ _ _ (Own.oneB cu) (Own.oneB cv) (Own.oneB bs)) u8 rfl rfl) ⟨fun _ => tk0, trivial⟩ ?_
   rintro _ u9 ⟨p3, dy⟩
   refine kM dy ?_
   have va := (ji.md dy)
   refine dn 0 rfl rfl va<|Qa9 ?_
   have K_569 : Kz [] c u9 := ((((((Kz.gr (Kz.refl _ _) n).gr u7).ka ct (tk1 ((.inr tk0) : 1 = 0 ∨ c.heap.size ≤ t))).gr dv).gr jh).md dy)
   have vb := (cu.md dy (Qd7 aE))
   have vc := (cv.md dy (Qd7 aF))
   have vd := (bs.md dy (Qd7 S))
   exact ⟨rfl, ⟨os.2, os.1, k, h9, ia, ib, ie, ig, ih, fq, fr, fs⟩, sbq, hm, vb, ⟨(Qbs (A := (fun x => c.heap.size ≤ x)) aE)⟩, vc, ⟨(Qbs (A := (fun x => c.heap.size ≤ x)) aF)⟩, vd, ⟨(Qbs (A := (fun x => c.heap.size ≤ x)) S)⟩, p3, (by omega), ⟨(tk1 m3.o)⟩, ⟨(tk1 m4.o)⟩, ⟨(tk1 m5.o)⟩, ⟨(Qbs (A := (fun x => x ≠ k)) aE)⟩, ⟨(Qbs (A := (fun x => x ≠ k)) aF)⟩, ⟨(Qbs (A := (fun x => x ≠ k)) S)⟩, K_569⟩
 clear hm; rintro ⟨gy, bu, bq19, vy21, zy21, gy21, vy22, zy22, gy22, vy23, zy23, gy23⟩ cw ⟨hm, aM, yV, aN, yW, aO, yX, jj, yY, yZ, y0, ve, vf, vg, vh, u⟩
 unfold Qnr at hm
 have Am := (zN.kz u)
 refine qj (β := Int × Qad × Nat × Value × Nat × Nat) ([6, 14] ++ rg 101 7) (fun ⟨jt, ii, bq25, vy27, zy27, gy27⟩ => [(6, .int .i64 jt), (14, .pointer (some ⟨bq25, 0, none⟩))]) (fun ⟨jt, ii, bq25, vy27, zy27, gy27⟩ wr => (Qo2 dS aP gy bu jt ii = some r) ∧ Own wr zy27 gy27 92 18 vy27 (ii.Secret.Labels.map Qb8.cs) ∧ Hdn (zy27 = 0 ∨ cw.heap.size ≤ gy27) ∧ Bx wr bq25 78 (Qad.cs ii vy27) ∧ cw.heap.size ≤ bq25 ∧ Hdn (zy27 = 0 ∨ gy27 ≠ bq25) ∧ Kz [] cw wr) ?_ ?_
 · refine dw [([])] [] (.fork [(0,10)] (.fork [(1,0)] (.fork [(2,0)] (.leaf [(3,0),(4,10),(5,10),(6,10),(7,0),(8,0),(9,10)]) (.leaf [(7,0),(3,0),(4,10),(5,10),(6,10),(8,0),(9,10)])) (.leaf [(7,0),(2,0),(3,0),(4,10),(5,10),(6,10),(8,0),(9,10)])) (.leaf [(7,0),(1,0),(2,0),(3,0),(4,10),(5,10),(6,10),(8,0),(9,10)])) ?_
   intro m6 lx D9
   refine Qbc ?_
   have vi := (((ip.kz mm).kz u).gr lx)
   refine dh 0 rfl rfl (fun w hS => Qa4 Qak rfl (Bx.kp vi hS) rfl)<|Qbt ?_ ?_
   · refine Qbc ?_
     obtain ⟨ET, vj, hm⟩ := bnd hm
     refine qz [] rfl (eC Qs1 rfl (Qcz vj)) ⟨fun _ => tk0, trivial⟩ ?_
     rintro _ EU ⟨rfl, ju⟩
     have Ea := ju.size
     refine kG ju<|Qbt ?_ ?_
     · refine Qbc ?_
       obtain ⟨EW, vk, hm⟩ := bnd hm
       refine qz [] rfl (eC Qke rfl (Qbb vk)) ⟨fun _ => tk0, trivial⟩ ?_
       rintro _ EX ⟨rfl, ly⟩
       have Eb := ly.size
       refine kG ly<|Qbt ?_ ?_
       · refine Qal ?_
         obtain ⟨vl, vm, hm⟩ := bnd hm
         refine qz [] rfl (eC Xa1 rfl (Qid vm)) ⟨fun _ => tk0, trivial⟩ ?_
         rintro _ EY ⟨jv, jw, jx, rfl, dz, jy, m7⟩
         have Ec := m7.size
         have lz := dz.lth
         refine kG m7 ?_
         have jk := ((((Kp.refl ([]) m6).gr ju).gr ly).gr m7)
         refine dn 0 rfl rfl jk<|dn 0 rfl rfl jk<|dn 0 rfl rfl jk<|qz [] rfl (Qa8 (cs := Qad.cs (Qad.mk (Qae.mk 0 [] (Qah.mk 0#64 0#64)) 0 (Qbh.mk (Qbl.mk false 0 k0) (Qbl.mk false 0 k0))) (.slice none 0 0)) Qp5 rfl) ⟨fun _ => tk0, trivial⟩ ?_
         rintro _ EZ ⟨p4, rfl, An, vn, m8⟩
         refine kG m8 ?_
         have ot := (dz.gr m8)
         refine qz [(1, p4)] rfl (Qaj Qdv rfl rfl (Qad.cs_ones _ _ (Own.oneB ot)) vn rfl rfl) ⟨fun _ => tk0, trivial⟩ ?_
         rintro _ Ao ⟨vo, m9⟩
         refine kM m9 ?_
         have vp := ((jk.gr m8).md m9)
         refine dn 0 rfl rfl vp<|Qa9 ?_
         have K_273 : Kz [] cw Ao := ((((((Kz.gr (Kz.refl _ _) lx).gr ju).gr ly).gr m7).gr m8).md m9)
         have vq := (ot.md m9 (Qau lz))
         exact ⟨rfl, ⟨vl.2, vl.1, p4, jv, jw, jx⟩, sbq, hm, vq, ⟨(Qbs (A := (fun x => cw.heap.size ≤ x)) jy)⟩, vo, (by omega), ⟨(Qlf (A := (fun x => x ≠ p4)) lz)⟩, K_273⟩
       refine Qal<|qz [] rfl (Qa8 (cs := Qad.cs (Qad.mk (Qae.mk 0 [] (Qah.mk 0#64 0#64)) 0 (Qbh.mk (Qbl.mk false 0 k0) (Qbl.mk false 0 k0))) (.slice none 0 0)) Qp5 rfl) ⟨fun _ => tk0, trivial⟩ ?_
       rintro _ E0 ⟨p5, rfl, Ap, ou, vr⟩
       have Aq := ou.lt
       refine kG vr ?_
       obtain ⟨vs, vt, hm⟩ := bnd hm
       refine qz [] rfl (eC Xa1 rfl (Qid vt)) ⟨fun _ => tk0, trivial⟩ ?_
       rintro _ E1 ⟨jz, jA, jB, rfl, dA, aT, p6⟩
       refine kG p6 ?_
       have vu := Gr.trans (Gr.trans (Gr.trans ju ly) vr) p6
       have jl := ((Kp.refl ([]) m6).gr vu)
       refine dn 0 rfl rfl jl<|dn 0 rfl rfl jl<|dn 0 rfl rfl jl ?_
       have vv := (ou.gr p6)
       refine qz [(1, p5)] rfl (Qaj Qdv rfl rfl (Qad.cs_ones _ _ (Own.oneB dA)) vv rfl rfl) ⟨fun _ => tk0, trivial⟩ ?_
       rintro _ Ar ⟨vw, na⟩
       refine kM na ?_
       have vx := (jl.md na)
       refine dn 0 rfl rfl vx<|Qa9 ?_
       have K_283 : Kz [] cw Ar := (((Kz.gr (Kz.refl _ _) lx).gr vu).md na)
       have vy := (dA.md na (Qd7 aT))
       exact ⟨rfl, ⟨vs.2, vs.1, p5, jz, jA, jB⟩, sbq, hm, vy, ⟨(Qbs (A := (fun x => cw.heap.size ≤ x)) aT)⟩, vw, (by omega), ⟨(Qbs (A := (fun x => x ≠ p5)) aT)⟩, K_283⟩
     refine Qal<|qz [] rfl (Qa8 (cs := Qad.cs (Qad.mk (Qae.mk 0 [] (Qah.mk 0#64 0#64)) 0 (Qbh.mk (Qbl.mk false 0 k0) (Qbl.mk false 0 k0))) (.slice none 0 0)) Qp5 rfl) ⟨fun _ => tk0, trivial⟩ ?_
     rintro _ E2 ⟨p7, rfl, As, ov, vz⟩
     have At := ov.lt
     refine kG vz ?_
     obtain ⟨E3, vA, hm⟩ := bnd hm
     refine qz [] rfl (eC Qke rfl (Qbb vA)) ⟨fun _ => tk0, trivial⟩ ?_
     rintro _ E4 ⟨rfl, nb⟩
     have Ed := nb.size
     refine kG nb ?_
     obtain ⟨vB, vC, hm⟩ := bnd hm
     refine qz [] rfl (eC Xa1 rfl (Qid vC)) ⟨fun _ => tk0, trivial⟩ ?_
     rintro _ E5 ⟨jC, jD, jE, rfl, dB, aU, p8⟩
     refine kG p8 ?_
     have vD := Gr.trans (Gr.trans (Gr.trans ju vz) nb) p8
     have jm := ((Kp.refl ([]) m6).gr vD)
     refine dn 0 rfl rfl jm<|dn 0 rfl rfl jm<|dn 0 rfl rfl jm ?_
     have vE := ((ov.gr nb).gr p8)
     refine qz [(1, p7)] rfl (Qaj Qdv rfl rfl (Qad.cs_ones _ _ (Own.oneB dB)) vE rfl rfl) ⟨fun _ => tk0, trivial⟩ ?_
     rintro _ Au ⟨vF, nc⟩
     refine kM nc ?_
     have vG := (jm.md nc)
     refine dn 0 rfl rfl vG<|Qa9 ?_
     have K_294 : Kz [] cw Au := (((Kz.gr (Kz.refl _ _) lx).gr vD).md nc)
     have vH := (dB.md nc (Qd7 aU))
     exact ⟨rfl, ⟨vB.2, vB.1, p7, jC, jD, jE⟩, sbq, hm, vH, ⟨(Qbs (A := (fun x => cw.heap.size ≤ x)) aU)⟩, vF, (by omega), ⟨(Qbs (A := (fun x => x ≠ p7)) aU)⟩, K_294⟩
   refine Qal<|qz [] rfl (Qa8 (cs := Qad.cs (Qad.mk (Qae.mk 0 [] (Qah.mk 0#64 0#64)) 0 (Qbh.mk (Qbl.mk false 0 k0) (Qbl.mk false 0 k0))) (.slice none 0 0)) Qp5 rfl) ⟨fun _ => tk0, trivial⟩ ?_
   rintro _ E6 ⟨p9, rfl, Av, ow, vI⟩
   have Aw := ow.lt
   refine kG vI ?_
   obtain ⟨E7, vJ, hm⟩ := bnd hm
   refine qz [] rfl (eC Qs1 rfl (Qcz vJ)) ⟨fun _ => tk0, trivial⟩ ?_
   rintro _ E8 ⟨rfl, nf⟩
   have Ee := nf.size
   refine kG nf ?_
   obtain ⟨E9, vK, hm⟩ := bnd hm
   refine qz [] rfl (eC Qke rfl (Qbb vK)) ⟨fun _ => tk0, trivial⟩ ?_
   rintro _ Fa ⟨rfl, ng⟩
   have Ef := ng.size
   refine kG ng ?_
   obtain ⟨vL, vM, hm⟩ := bnd hm
   refine qz [] rfl (eC Xa1 rfl (Qid vM)) ⟨fun _ => tk0, trivial⟩ ?_
   rintro _ Eg ⟨ij, ik, il, rfl, cx, aG, lA⟩
   refine kG lA ?_
   have vN := Gr.trans (Gr.trans (Gr.trans vI nf) ng) lA
   have jn := ((Kp.refl ([]) m6).gr vN)
   refine dn 0 rfl rfl jn<|dn 0 rfl rfl jn<|dn 0 rfl rfl jn ?_
   have Ax := Gr.trans (Gr.trans nf ng) lA
   have vO := (ow.gr Ax)
   refine qz [(1, p9)] rfl (Qaj Qdv rfl rfl (Qad.cs_ones _ _ (Own.oneB cx)) vO rfl rfl) ⟨fun _ => tk0, trivial⟩ ?_
   rintro _ vP ⟨qa, jo⟩
   refine kM jo ?_
   have vQ := (jn.md jo)
   refine dn 0 rfl rfl vQ<|Qa9 ?_
   have K_306 : Kz [] cw vP := (((Kz.gr (Kz.refl _ _) lx).gr vN).md jo)
   have vR := (cx.md jo (Qd7 aG))
   exact ⟨rfl, ⟨vL.2, vL.1, p9, ij, ik, il⟩, sbq, hm, vR, ⟨(Qbs (A := (fun x => cw.heap.size ≤ x)) aG)⟩, qa, (by omega), ⟨(Qbs (A := (fun x => x ≠ p9)) aG)⟩, K_306⟩
 clear hm; rintro ⟨jt, ii, bq25, vy27, zy27, gy27⟩ cy ⟨hm, bw, y1, nh, y2, y3, j⟩
 unfold Qo2 at hm
 have Ay := (Am.kz j)
 refine qj (β := Int × Qad × Nat × Value × Nat × Nat) ([8, 15] ++ rg 108 7) (fun ⟨jF, ft, bq29, vy31, zy31, gy31⟩ => [(8, .int .i64 jF), (15, .pointer (some ⟨bq29, 0, none⟩))]) (fun ⟨jF, ft, bq29, vy31, zy31, gy31⟩ wr => (Qnp dS aP gy bu jt ii jF ft = some r) ∧ Own wr zy31 gy31 92 18 vy31 (ft.Secret.Labels.map Qb8.cs) ∧ Hdn (zy31 = 0 ∨ cy.heap.size ≤ gy31) ∧ Bx wr bq29 78 (Qad.cs ft vy31) ∧ cy.heap.size ≤ bq29 ∧ Hdn (zy31 = 0 ∨ gy31 ≠ bq29) ∧ Kz [] cy wr) ?_ ?_
 · refine dw [([])] [] (.fork [(0,10)] (.fork [(1,0)] (.fork [(2,0)] (.leaf [(3,0),(4,10),(5,10),(6,10),(7,0),(8,0),(9,10)]) (.leaf [(7,0),(3,0),(4,10),(5,10),(6,10),(8,0),(9,10)])) (.leaf [(7,0),(2,0),(3,0),(4,10),(5,10),(6,10),(8,0),(9,10)])) (.leaf [(7,0),(1,0),(2,0),(3,0),(4,10),(5,10),(6,10),(8,0),(9,10)])) ?_
   intro ni lB Eh
   refine Qbc ?_
   have vS := ((((ip.kz mm).kz u).kz j).gr lB)
   refine dh 0 rfl rfl (fun w hS => Qa4 Qak rfl (Bx.kp vS hS) rfl)<|Qbt ?_ ?_
   · refine Qbc ?_
     obtain ⟨Fb, vT, hm⟩ := bnd hm
     refine qz [] rfl (eC Qs1 rfl (Qcz vT)) ⟨fun _ => tk0, trivial⟩ ?_
     rintro _ Fc ⟨rfl, jG⟩
     have Ei := jG.size
     refine kG jG<|Qbt ?_ ?_
     · refine Qbc ?_
       obtain ⟨Fd, vU, hm⟩ := bnd hm
       refine qz [] rfl (eC Qke rfl (Qbb vU)) ⟨fun _ => tk0, trivial⟩ ?_
       rintro _ Fe ⟨rfl, lC⟩
       have Ej := lC.size
       refine kG lC<|Qbt ?_ ?_
       · refine Qal ?_
         obtain ⟨vV, vW, hm⟩ := bnd hm
         refine qz [] rfl (eC Xa1 rfl (Qid vW)) ⟨fun _ => tk0, trivial⟩ ?_
         rintro _ Ff ⟨jH, jI, jJ, rfl, dC, jK, nj⟩
         have Ek := nj.size
         have lD := dC.lth
         refine kG nj ?_
         have jp := ((((Kp.refl ([]) ni).gr jG).gr lC).gr nj)
         refine dn 0 rfl rfl jp<|dn 0 rfl rfl jp<|dn 0 rfl rfl jp<|qz [] rfl (Qa8 (cs := Qad.cs (Qad.mk (Qae.mk 0 [] (Qah.mk 0#64 0#64)) 0 (Qbh.mk (Qbl.mk false 0 k0) (Qbl.mk false 0 k0))) (.slice none 0 0)) Qp5 rfl) ⟨fun _ => tk0, trivial⟩ ?_
         rintro _ Fg ⟨qc, rfl, Az, vX, nk⟩
         refine kG nk ?_
         have ox := (dC.gr nk)
         refine qz [(1, qc)] rfl (Qaj Qdv rfl rfl (Qad.cs_ones _ _ (Own.oneB ox)) vX rfl rfl) ⟨fun _ => tk0, trivial⟩ ?_
         rintro _ AA ⟨vY, nl⟩
         refine kM nl ?_
         have vZ := ((jp.gr nk).md nl)
         refine dn 0 rfl rfl vZ<|Qa9 ?_
         have K_227 : Kz [] cy AA := ((((((Kz.gr (Kz.refl _ _) lB).gr jG).gr lC).gr nj).gr nk).md nl)
         have v0 := (ox.md nl (Qau lD))
         exact ⟨rfl, ⟨vV.2, vV.1, qc, jH, jI, jJ⟩, sbq, hm, v0, ⟨(Qbs (A := (fun x => cy.heap.size ≤ x)) jK)⟩, vY, (by omega), ⟨(Qlf (A := (fun x => x ≠ qc)) lD)⟩, K_227⟩
       refine Qal<|qz [] rfl (Qa8 (cs := Qad.cs (Qad.mk (Qae.mk 0 [] (Qah.mk 0#64 0#64)) 0 (Qbh.mk (Qbl.mk false 0 k0) (Qbl.mk false 0 k0))) (.slice none 0 0)) Qp5 rfl) ⟨fun _ => tk0, trivial⟩ ?_
       rintro _ Fh ⟨qf, rfl, AB, oy, v1⟩
       have AC := oy.lt
       refine kG v1 ?_
       obtain ⟨v2, v3, hm⟩ := bnd hm
       refine qz [] rfl (eC Xa1 rfl (Qid v3)) ⟨fun _ => tk0, trivial⟩ ?_
       rintro _ Fi ⟨jL, jM, jN, rfl, dD, aV, qi⟩
       refine kG qi ?_
       have v4 := Gr.trans (Gr.trans (Gr.trans jG lC) v1) qi
       have jq := ((Kp.refl ([]) ni).gr v4)
       refine dn 0 rfl rfl jq<|dn 0 rfl rfl jq<|dn 0 rfl rfl jq ?_
       have v5 := (oy.gr qi)
       refine qz [(1, qf)] rfl (Qaj Qdv rfl rfl (Qad.cs_ones _ _ (Own.oneB dD)) v5 rfl rfl) ⟨fun _ => tk0, trivial⟩ ?_
       rintro _ AD ⟨v6, nm⟩
       refine kM nm ?_
       have v7 := (jq.md nm)
       refine dn 0 rfl rfl v7<|Qa9 ?_
       have K_237 : Kz [] cy AD := (((Kz.gr (Kz.refl _ _) lB).gr v4).md nm)
       have v8 := (dD.md nm (Qd7 aV))
       exact ⟨rfl, ⟨v2.2, v2.1, qf, jL, jM, jN⟩, sbq, hm, v8, ⟨(Qbs (A := (fun x => cy.heap.size ≤ x)) aV)⟩, v6, (by omega), ⟨(Qbs (A := (fun x => x ≠ qf)) aV)⟩, K_237⟩
     refine Qal<|qz [] rfl (Qa8 (cs := Qad.cs (Qad.mk (Qae.mk 0 [] (Qah.mk 0#64 0#64)) 0 (Qbh.mk (Qbl.mk false 0 k0) (Qbl.mk false 0 k0))) (.slice none 0 0)) Qp5 rfl) ⟨fun _ => tk0, trivial⟩ ?_
     rintro _ Fj ⟨ql, rfl, AE, oz, v9⟩
     have AF := oz.lt
     refine kG v9 ?_
     obtain ⟨Fk, wa, hm⟩ := bnd hm
     refine qz [] rfl (eC Qke rfl (Qbb wa)) ⟨fun _ => tk0, trivial⟩ ?_
     rintro _ Fl ⟨rfl, nn⟩
     have El := nn.size
     refine kG nn ?_
     obtain ⟨wb, wc, hm⟩ := bnd hm
     refine qz [] rfl (eC Xa1 rfl (Qid wc)) ⟨fun _ => tk0, trivial⟩ ?_
     rintro _ Fm ⟨jO, jP, jQ, rfl, dE, aW, qn⟩
     refine kG qn ?_
     have we := Gr.trans (Gr.trans (Gr.trans jG v9) nn) qn
     have jr := ((Kp.refl ([]) ni).gr we)
     refine dn 0 rfl rfl jr<|dn 0 rfl rfl jr<|dn 0 rfl rfl jr ?_
     have wf := ((oz.gr nn).gr qn)
     refine qz [(1, ql)] rfl (Qaj Qdv rfl rfl (Qad.cs_ones _ _ (Own.oneB dE)) wf rfl rfl) ⟨fun _ => tk0, trivial⟩ ?_
     rintro _ AG ⟨wg, no⟩
     refine kM no ?_
     have wh := (jr.md no)
     refine dn 0 rfl rfl wh<|Qa9 ?_
     have K_248 : Kz [] cy AG := (((Kz.gr (Kz.refl _ _) lB).gr we).md no)
     have wi := (dE.md no (Qd7 aW))
     exact ⟨rfl, ⟨wb.2, wb.1, ql, jO, jP, jQ⟩, sbq, hm, wi, ⟨(Qbs (A := (fun x => cy.heap.size ≤ x)) aW)⟩, wg, (by omega), ⟨(Qbs (A := (fun x => x ≠ ql)) aW)⟩, K_248⟩
   refine Qal<|qz [] rfl (Qa8 (cs := Qad.cs (Qad.mk (Qae.mk 0 [] (Qah.mk 0#64 0#64)) 0 (Qbh.mk (Qbl.mk false 0 k0) (Qbl.mk false 0 k0))) (.slice none 0 0)) Qp5 rfl) ⟨fun _ => tk0, trivial⟩ ?_
   rintro _ Fn ⟨qo, rfl, AH, oA, wj⟩
   have AI := oA.lt
   refine kG wj ?_
   obtain ⟨Fo, wk, hm⟩ := bnd hm
   refine qz [] rfl (eC Qs1 rfl (Qcz wk)) ⟨fun _ => tk0, trivial⟩ ?_
   rintro _ Fp ⟨rfl, np⟩
   have Em := np.size
   refine kG np ?_
   obtain ⟨Fq, wl, hm⟩ := bnd hm
   refine qz [] rfl (eC Qke rfl (Qbb wl)) ⟨fun _ => tk0, trivial⟩ ?_
   rintro _ Fr ⟨rfl, nq⟩
   have Eo := nq.size
   refine kG nq ?_
   obtain ⟨wm, wn, hm⟩ := bnd hm
   refine qz [] rfl (eC Xa1 rfl (Qid wn)) ⟨fun _ => tk0, trivial⟩ ?_
   rintro _ Fs ⟨jR, jS, jT, rfl, dF, aX, qA⟩
   refine kG qA ?_
   have wo := Gr.trans (Gr.trans (Gr.trans wj np) nq) qA
   have js := ((Kp.refl ([]) ni).gr wo)
   refine dn 0 rfl rfl js<|dn 0 rfl rfl js<|dn 0 rfl rfl js ?_
   have AJ := Gr.trans (Gr.trans np nq) qA
   have wq := (oA.gr AJ)
   refine qz [(1, qo)] rfl (Qaj Qdv rfl rfl (Qad.cs_ones _ _ (Own.oneB dF)) wq rfl rfl) ⟨fun _ => tk0, trivial⟩ ?_
   rintro _ AK ⟨wt, nr⟩
   refine kM nr ?_
   have wu := (js.md nr)
   refine dn 0 rfl rfl wu<|Qa9 ?_
   have K_260 : Kz [] cy AK := (((Kz.gr (Kz.refl _ _) lB).gr wo).md nr)
   have ww := (dF.md nr (Qd7 aX))
   exact ⟨rfl, ⟨wm.2, wm.1, qo, jR, jS, jT⟩, sbq, hm, ww, ⟨(Qbs (A := (fun x => cy.heap.size ≤ x)) aX)⟩, wt, (by omega), ⟨(Qbs (A := (fun x => x ≠ qo)) aX)⟩, K_260⟩
 clear hm; rintro ⟨jF, ft, bq29, vy31, zy31, gy31⟩ AL ⟨hm, nt, y4, nu, y5, y6, h⟩
 unfold Qnp at hm
 refine Qa3 ?_
 have wx := (Ay.kz h)
 refine qj (β := Bool) (rg 115 14) (fun nv => [(128, .bool nv)]) (fun nv wr => (Qhq aP bu ii ft nv = some r) ∧ Kz [] AL wr) ?_ ?_
 · refine qg 14 rfl<|qm rfl<|qv rfl (Qc2 (a := dS) (b := 0) rfl rfl)<|qp rfl (Qac rfl) (fun c7 => ?_) (fun c7 => ?_)
   · replace hm := iT c7 hm
     refine qk rfl<|qk rfl<|qm rfl<|qm rfl<|qk rfl<|qk rfl<|qm rfl ?_
     refine qm rfl<|qk rfl<|qk rfl<|qm rfl<|Qa9 ?_
     exact ⟨rfl, true, sbq, hm, kz0⟩
   replace hm := iF c7 hm
   refine qm rfl<|qv rfl (Qc2 (a := gy) (b := 0) rfl rfl)<|qm rfl<|qp rfl (Qac rfl) (fun c8 => ?_) (fun c8 => ?_)
   · replace hm := iT c8 hm
     refine qk rfl<|qk rfl<|qm rfl<|qm rfl<|qk rfl<|qk rfl<|qm rfl ?_
     refine Qa9 ?_
     exact ⟨rfl, true, sbq, hm, kz0⟩
   replace hm := iF c8 hm
   refine qm rfl<|qv rfl (Qc2 (a := jt) (b := 0) rfl rfl)<|qm rfl<|qp rfl (Qac rfl) (fun c9 => ?_) (fun c9 => ?_)
   · replace hm := iT c9 hm
     refine qk rfl<|qk rfl<|qm rfl<|Qa9 ?_
     exact ⟨rfl, true, sbq, hm, kz0⟩
   replace hm := iF c9 hm
   refine qm rfl<|qv rfl (Qc2 (a := jF) (b := 0) rfl rfl)<|qm rfl<|Qa9 ?_
   exact ⟨rfl, (decide (jF ≠ 0)), sbq, hm, kz0⟩
 clear hm; rintro nv cz ⟨hm, g⟩
 unfold Qhq at hm
 refine Qam rfl (fun c2 => ?_) (fun c2 => ?_)
 · replace hm := Qc8 c2 hm
   refine qs 1 rfl<|qm rfl<|qb ?_
   have AM := (wx.kz g)
   cases hm
   refine ⟨_, _, rfl, Qb1 rfl (Qab rfl), ?_⟩
   exact ⟨rfl, AM⟩
 replace hm := Qc7 c2 hm
 refine qu ?_
 have AN := (wx.kz g)
 refine qj (β := Int × Qad × Nat × Value × Nat × Nat) ([2, 16, 17] ++ rg 129 9) (fun ⟨jU, lE, bq34, vy36, zy36, gy36⟩ => [(2, .int .i64 jU), (16, .pointer (some ⟨bq34, 0, none⟩))]) (fun ⟨jU, lE, bq34, vy36, zy36, gy36⟩ wr => (Qnv aP bu ft jU lE = some r) ∧ Own wr zy36 gy36 92 18 vy36 (lE.Secret.Labels.map Qb8.cs) ∧ Hdn (zy36 = 0 ∨ cz.heap.size ≤ gy36) ∧ Bx wr bq34 78 (Qad.cs lE vy36) ∧ cz.heap.size ≤ bq34 ∧ Hdn (zy36 = 0 ∨ gy36 ≠ bq34) ∧ Kz [] cz wr) ?_ ?_
 · refine dw [([])] [] (.fork [(2,10),(3,10)] (.fork [(0,0)] (.fork [(1,0)] (.leaf [(4,0),(5,10),(6,10),(7,10),(8,10),(9,0),(10,0),(11,10),(12,10)]) (.leaf [(9,0),(4,0),(5,10),(6,10),(7,10),(8,10),(10,0),(11,10),(12,10)])) (.leaf [(9,0),(1,0),(4,0),(5,10),(6,10),(7,10),(8,10),(10,0),(11,10),(12,10)])) (.leaf [(9,0),(0,0),(1,0),(4,0),(5,10),(6,10),(7,10),(8,10),(10,0),(11,10),(12,10)])) ?_
   intro nw cA Ep
   refine Qbc ?_
   have wy := (((nh.kz h).kz g).gr cA)
   refine dh 0 rfl rfl (fun w hS => Qa4 Qdv rfl (Bx.kp wy hS) rfl) ?_
   have wz := (((((iH.kz u).kz j).kz h).kz g).gr cA)
   refine dh 0 rfl rfl (fun w hS => Qa4 Qcr rfl (Bx.kp wz hS) rfl)<|Qbt ?_ ?_
   · refine Qbc ?_
     obtain ⟨Ft, wA, hm⟩ := bnd hm
     refine qz [] rfl (eC Qs1 rfl (Qcz wA)) ⟨fun _ => tk0, trivial⟩ ?_
     rintro _ Fu ⟨rfl, dP⟩
     have Eq := dP.size
     refine kG dP<|Qbt ?_ ?_
     · refine Qbc ?_
       obtain ⟨Fv, wB, hm⟩ := bnd hm
       refine qz [] rfl (eC Qke rfl (Qbb wB)) ⟨fun _ => tk0, trivial⟩ ?_
       rintro _ Fx ⟨rfl, im⟩
       have Er := im.size
       refine kG im<|Qbt ?_ ?_
       · refine Qal ?_
         have nx := Gr.trans (Gr.trans cA dP) im
         have wC := (((bw.kz h).kz g).gr nx)
         have wD := (((((aJ.kz u).kz j).kz h).kz g).gr nx)
         have wE := (((((aK.kz u).kz j).kz h).kz g).gr nx)
         have wF := (((((aL.kz u).kz j).kz h).kz g).gr nx)
         obtain ⟨wG, wH, hm⟩ := bnd hm
         refine qz [] rfl (eC Qx5 rfl (Qez wH (Own.rd wC) (Own.rd wD) (Own.rd wE) (Own.rd wF))) ⟨fun _ => tk0, trivial⟩ ?_
         rintro _ Fy ⟨jV, jW, jX, qV, qW, qX, rfl, dG, jY, qY, qZ, AO, ny⟩
         have Es := ny.size
         have lF := dG.lth
         refine kG ny ?_
         have fu := ((((Kp.refl ([]) nw).gr dP).gr im).gr ny)
         refine dn 0 rfl rfl fu<|dn 0 rfl rfl fu<|dn 0 rfl rfl fu<|dn 0 rfl rfl fu<|qz [] rfl (Qa8 (cs := Qad.cs (Qad.mk (Qae.mk 0 [] (Qah.mk 0#64 0#64)) 0 (Qbh.mk (Qbl.mk false 0 k0) (Qbl.mk false 0 k0))) (.slice none 0 0)) Qp5 rfl) ⟨fun _ => tk0, trivial⟩ ?_
         rintro _ Fz ⟨qB, rfl, AP, wI, nz⟩
         refine kG nz ?_
         have oB := (dG.gr nz)
         refine qz [(1, qB)] rfl (Qaj Qdv rfl rfl (Qad.cs_ones _ _ (Own.oneB oB)) wI rfl rfl) ⟨fun _ => tk0, trivial⟩ ?_
         rintro _ AQ ⟨wJ, nA⟩
         refine kM nA ?_
         have oC := ((fu.gr nz).md nA)
         refine dn 0 rfl rfl oC<|dn 0 rfl rfl oC<|Qa9 ?_
         have K_162 : Kz [] cz AQ := ((((((Kz.gr (Kz.refl _ _) cA).gr dP).gr im).gr ny).gr nz).md nA)
         have wK := (oB.md nA (Qau lF))
         exact ⟨rfl, ⟨wG.2.2, wG.1, qB, jV, jW, jX⟩, sbq, hm, wK, ⟨(Qbs (A := (fun x => cz.heap.size ≤ x)) jY)⟩, wJ, (by omega), ⟨(Qlf (A := (fun x => x ≠ qB)) lF)⟩, K_162⟩
       refine Qal<|qz [] rfl (Qa8 (cs := Qad.cs (Qad.mk (Qae.mk 0 [] (Qah.mk 0#64 0#64)) 0 (Qbh.mk (Qbl.mk false 0 k0) (Qbl.mk false 0 k0))) (.slice none 0 0)) Qp5 rfl) ⟨fun _ => tk0, trivial⟩ ?_
       rintro _ FB ⟨qC, rfl, AR, oD, qD⟩
       have AS := oD.lt
       refine kG qD ?_
       have nB := Gr.trans (Gr.trans (Gr.trans cA dP) im) qD
       have wL := (((bw.kz h).kz g).gr nB)
       have wM := (((((aJ.kz u).kz j).kz h).kz g).gr nB)
       have wN := (((((aK.kz u).kz j).kz h).kz g).gr nB)
       have wO := (((((aL.kz u).kz j).kz h).kz g).gr nB)
       obtain ⟨wP, wQ, hm⟩ := bnd hm
       refine qz [] rfl (eC Qx5 rfl (Qez wQ (Own.rd wL) (Own.rd wM) (Own.rd wN) (Own.rd wO))) ⟨fun _ => tk0, trivial⟩ ?_
       rintro _ FC ⟨jZ, j0, j1, q0, q1, q2, rfl, dH, aY, q3, q4, AT, qE⟩
       refine kG qE ?_
       have wR := Gr.trans (Gr.trans (Gr.trans dP im) qD) qE
       have fv := ((Kp.refl ([]) nw).gr wR)
       refine dn 0 rfl rfl fv<|dn 0 rfl rfl fv<|dn 0 rfl rfl fv<|dn 0 rfl rfl fv ?_
       have wS := (oD.gr qE)
       refine qz [(1, qC)] rfl (Qaj Qdv rfl rfl (Qad.cs_ones _ _ (Own.oneB dH)) wS rfl rfl) ⟨fun _ => tk0, trivial⟩ ?_
       rintro _ AU ⟨wT, nC⟩
       refine kM nC ?_
       have oE := (fv.md nC)
       refine dn 0 rfl rfl oE<|dn 0 rfl rfl oE<|Qa9 ?_
       have K_177 : Kz [] cz AU := (((Kz.gr (Kz.refl _ _) cA).gr wR).md nC)
       have wU := (dH.md nC (Qd7 aY))
       exact ⟨rfl, ⟨wP.2.2, wP.1, qC, jZ, j0, j1⟩, sbq, hm, wU, ⟨(Qbs (A := (fun x => cz.heap.size ≤ x)) aY)⟩, wT, (by omega), ⟨(Qbs (A := (fun x => x ≠ qC)) aY)⟩, K_177⟩
     refine Qal<|qz [] rfl (Qa8 (cs := Qad.cs (Qad.mk (Qae.mk 0 [] (Qah.mk 0#64 0#64)) 0 (Qbh.mk (Qbl.mk false 0 k0) (Qbl.mk false 0 k0))) (.slice none 0 0)) Qp5 rfl) ⟨fun _ => tk0, trivial⟩ ?_
     rintro _ FD ⟨qF, rfl, AV, oF, qG⟩
     have AW := oF.lt
     refine kG qG ?_
     obtain ⟨FE, wV, hm⟩ := bnd hm
     refine qz [] rfl (eC Qke rfl (Qbb wV)) ⟨fun _ => tk0, trivial⟩ ?_
     rintro _ FF ⟨rfl, lG⟩
     have Et := lG.size
     refine kG lG ?_
     have nD := Gr.trans (Gr.trans (Gr.trans cA dP) qG) lG
     have wW := (((bw.kz h).kz g).gr nD)
     have wX := (((((aJ.kz u).kz j).kz h).kz g).gr nD)
     have wY := (((((aK.kz u).kz j).kz h).kz g).gr nD)
     have wZ := (((((aL.kz u).kz j).kz h).kz g).gr nD)
     obtain ⟨w0, xa, hm⟩ := bnd hm
     refine qz [] rfl (eC Qx5 rfl (Qez xa (Own.rd wW) (Own.rd wX) (Own.rd wY) (Own.rd wZ))) ⟨fun _ => tk0, trivial⟩ ?_
     rintro _ FG ⟨j2, j3, j4, q5, q6, q7, rfl, dI, aZ, q8, q9, AX, qH⟩
     refine kG qH ?_
     have xb := Gr.trans (Gr.trans (Gr.trans dP qG) lG) qH
     have fw := ((Kp.refl ([]) nw).gr xb)
     refine dn 0 rfl rfl fw<|dn 0 rfl rfl fw<|dn 0 rfl rfl fw<|dn 0 rfl rfl fw ?_
     have xc := ((oF.gr lG).gr qH)
     refine qz [(1, qF)] rfl (Qaj Qdv rfl rfl (Qad.cs_ones _ _ (Own.oneB dI)) xc rfl rfl) ⟨fun _ => tk0, trivial⟩ ?_
     rintro _ AY ⟨xd, nE⟩
     refine kM nE ?_
     have oG := (fw.md nE)
     refine dn 0 rfl rfl oG<|dn 0 rfl rfl oG<|Qa9 ?_
     have K_193 : Kz [] cz AY := (((Kz.gr (Kz.refl _ _) cA).gr xb).md nE)
     have xe := (dI.md nE (Qd7 aZ))
     exact ⟨rfl, ⟨w0.2.2, w0.1, qF, j2, j3, j4⟩, sbq, hm, xe, ⟨(Qbs (A := (fun x => cz.heap.size ≤ x)) aZ)⟩, xd, (by omega), ⟨(Qbs (A := (fun x => x ≠ qF)) aZ)⟩, K_193⟩
   refine Qal<|qz [] rfl (Qa8 (cs := Qad.cs (Qad.mk (Qae.mk 0 [] (Qah.mk 0#64 0#64)) 0 (Qbh.mk (Qbl.mk false 0 k0) (Qbl.mk false 0 k0))) (.slice none 0 0)) Qp5 rfl) ⟨fun _ => tk0, trivial⟩ ?_
   rintro _ FH ⟨qI, rfl, AZ, oH, qJ⟩
   have A0 := oH.lt
   refine kG qJ ?_
   obtain ⟨FI, xf, hm⟩ := bnd hm
   refine qz [] rfl (eC Qs1 rfl (Qcz xf)) ⟨fun _ => tk0, trivial⟩ ?_
   rintro _ FJ ⟨rfl, lH⟩
   have Eu := lH.size
   refine kG lH ?_
   obtain ⟨FK, xg, hm⟩ := bnd hm
   refine qz [] rfl (eC Qke rfl (Qbb xg)) ⟨fun _ => tk0, trivial⟩ ?_
   rintro _ FL ⟨rfl, lI⟩
   have Ev := lI.size
   refine kG lI ?_
   have nF := Gr.trans (Gr.trans (Gr.trans cA qJ) lH) lI
   have xh := (((bw.kz h).kz g).gr nF)
   have xi := (((((aJ.kz u).kz j).kz h).kz g).gr nF)
   have xj := (((((aK.kz u).kz j).kz h).kz g).gr nF)
   have xk := (((((aL.kz u).kz j).kz h).kz g).gr nF)
   obtain ⟨xl, xm, hm⟩ := bnd hm
   refine qz [] rfl (eC Qx5 rfl (Qez xm (Own.rd xh) (Own.rd xi) (Own.rd xj) (Own.rd xk))) ⟨fun _ => tk0, trivial⟩ ?_
   rintro _ FM ⟨j5, j6, j7, ra, rb, rc, rfl, dJ, a0, re, rf, A1, qK⟩
   refine kG qK ?_
   have xn := Gr.trans (Gr.trans (Gr.trans qJ lH) lI) qK
   have fx := ((Kp.refl ([]) nw).gr xn)
   refine dn 0 rfl rfl fx<|dn 0 rfl rfl fx<|dn 0 rfl rfl fx<|dn 0 rfl rfl fx ?_
   have A2 := Gr.trans (Gr.trans lH lI) qK
   have xo := (oH.gr A2)
   refine qz [(1, qI)] rfl (Qaj Qdv rfl rfl (Qad.cs_ones _ _ (Own.oneB dJ)) xo rfl rfl) ⟨fun _ => tk0, trivial⟩ ?_
   rintro _ A3 ⟨xp, nG⟩
   refine kM nG ?_
   have oI := (fx.md nG)
   refine dn 0 rfl rfl oI<|dn 0 rfl rfl oI<|Qa9 ?_
   have K_210 : Kz [] cz A3 := (((Kz.gr (Kz.refl _ _) cA).gr xn).md nG)
   have xq := (dJ.md nG (Qd7 a0))
   exact ⟨rfl, ⟨xl.2.2, xl.1, qI, j5, j6, j7⟩, sbq, hm, xq, ⟨(Qbs (A := (fun x => cz.heap.size ≤ x)) a0)⟩, xp, (by omega), ⟨(Qbs (A := (fun x => x ≠ qI)) a0)⟩, K_210⟩
 clear hm; rintro ⟨jU, lE, bq34, vy36, zy36, gy36⟩ cB ⟨hm, bx, y7, nH, y8, y9, p⟩
 unfold Qnv at hm
 have lJ := (AN.kz p)
 refine qj (β := Int × List (BitVec 8) × Value × Nat × Nat) ([4, 18, 19] ++ rg 138 9) (fun ⟨lK, j8, vy39, zy39, gy39⟩ => [(4, .int .i64 lK), (19, vy39)]) (fun ⟨lK, j8, vy39, zy39, gy39⟩ wr => (Qnq aP bu ft jU lK j8 = some r) ∧ Own wr zy39 gy39 5 1 vy39 (j8.map bvc) ∧ Hdn (zy39 = 0 ∨ cB.heap.size ≤ gy39) ∧ Kz [] cB wr) ?_ ?_
 · refine dw [([])] [] (.fork [(2,10),(3,10)] (.fork [(0,0)] (.fork [(1,0)] (.leaf [(4,0),(5,10),(6,10),(7,10),(8,10),(9,0),(10,0),(11,10),(12,10)]) (.leaf [(9,0),(4,0),(5,10),(6,10),(7,10),(8,10),(10,0),(11,10),(12,10)])) (.leaf [(9,0),(1,0),(4,0),(5,10),(6,10),(7,10),(8,10),(10,0),(11,10),(12,10)])) (.leaf [(9,0),(0,0),(1,0),(4,0),(5,10),(6,10),(7,10),(8,10),(10,0),(11,10),(12,10)])) ?_
   intro nI cC Ew
   refine Qbc ?_
   have A4 := (nH.gr cC)
   refine dh 0 rfl rfl (fun w hS => Qa4 Qdv rfl (Bx.kp A4 hS) rfl) ?_
   have A5 := (((((jj.kz j).kz h).kz g).kz p).gr cC)
   refine dh 0 rfl rfl (fun w hS => Qa4 Qcr rfl (Bx.kp A5 hS) rfl)<|Qbt ?_ ?_
   · refine Qbc ?_
     obtain ⟨FN, xr, hm⟩ := bnd hm
     refine qz [] rfl (eC Qs1 rfl (Qcz xr)) ⟨fun _ => tk0, trivial⟩ ?_
     rintro _ FO ⟨rfl, dQ⟩
     have FP := dQ.size
     refine kG dQ<|Qbt ?_ ?_
     · refine Qbc ?_
       obtain ⟨FQ, xs, hm⟩ := bnd hm
       refine qz [] rfl (eC Qke rfl (Qbb xs)) ⟨fun _ => tk0, trivial⟩ ?_
       rintro _ FR ⟨rfl, io⟩
       have FSq := io.size
       refine kG io<|Qbt ?_ ?_
       · refine Qal ?_
         have nJ := Gr.trans (Gr.trans cC dQ) io
         have A6 := (bx.gr nJ)
         have A7 := (((((aM.kz j).kz h).kz g).kz p).gr nJ)
         have A8 := (((((aN.kz j).kz h).kz g).kz p).gr nJ)
         have A9 := (((((aO.kz j).kz h).kz g).kz p).gr nJ)
         obtain ⟨xt, xu, hm⟩ := bnd hm
         refine qz [] rfl (eC Qx5 rfl (Qez xu (Own.rd A6) (Own.rd A7) (Own.rd A8) (Own.rd A9))) ⟨fun _ => tk0, trivial⟩ ?_
         rintro _ FT ⟨rh, ri, rj, j9, kc, kd, rfl, ke, rk, dK, kf, Ba, nK⟩
         have FU := nK.size
         have xv := dK.lth
         refine kG nK ?_
         have lL := ((((Kp.refl ([]) nI).gr dQ).gr io).gr nK)
         refine dn 0 rfl rfl lL<|dn 0 rfl rfl lL<|dn 0 rfl rfl lL<|dn 0 rfl rfl lL<|qz [] rfl (Qa8 (cs := Qad.cs (Qad.mk (Qae.mk 0 [] (Qah.mk 0#64 0#64)) 0 (Qbh.mk (Qbl.mk false 0 k0) (Qbl.mk false 0 k0))) (.slice none 0 0)) Qp5 rfl) ⟨fun _ => tk0, trivial⟩ ?_
         rintro _ FV ⟨Bb, rfl, Bc, xw, lM⟩
         refine kG lM ?_
         have Bd := (ke.gr lM)
         refine qz [(1, Bb)] rfl (Qaj Qdv rfl rfl (Qad.cs_ones _ _ (Own.oneB Bd)) xw rfl rfl) ⟨fun _ => tk0, trivial⟩ ?_
         rintro _ Be ⟨Ex, nL⟩
         refine kM nL ?_
         have xx := ((lL.gr lM).md nL)
         refine dn 0 rfl rfl xx<|dn 0 rfl rfl xx<|Qa9 ?_
         have K_95 : Kz [] cB Be := ((((((Kz.gr (Kz.refl _ _) cC).gr dQ).gr io).gr nK).gr lM).md nL)
         have Bf := ((dK.gr lM).md nL (Qau xv))
         exact ⟨rfl, ⟨xt.2.2, xt.2.1, j9, kc, kd⟩, sbq, hm, Bf, ⟨(Qbs (A := (fun x => cB.heap.size ≤ x)) kf)⟩, K_95⟩
       refine Qal<|qz [] rfl (Qa8 (cs := Qad.cs (Qad.mk (Qae.mk 0 [] (Qah.mk 0#64 0#64)) 0 (Qbh.mk (Qbl.mk false 0 k0) (Qbl.mk false 0 k0))) (.slice none 0 0)) Qp5 rfl) ⟨fun _ => tk0, trivial⟩ ?_
       rintro _ FW ⟨Bg, rfl, Bh, oJ, qL⟩
       have Ey := oJ.lt
       refine kG qL ?_
       have nM := Gr.trans (Gr.trans (Gr.trans cC dQ) io) qL
       have Bi := (bx.gr nM)
       have xy := (((((aM.kz j).kz h).kz g).kz p).gr nM)
       have xz := (((((aN.kz j).kz h).kz g).kz p).gr nM)
       have xA := (((((aO.kz j).kz h).kz g).kz p).gr nM)
       obtain ⟨xB, xC, hm⟩ := bnd hm
       refine qz [] rfl (eC Qx5 rfl (Qez xC (Own.rd Bi) (Own.rd xy) (Own.rd xz) (Own.rd xA))) ⟨fun _ => tk0, trivial⟩ ?_
       rintro _ FX ⟨rl, rm, rn, kg, kh, ki, rfl, kj, ro, kk, dL, Bj, qM⟩
       refine kG qM ?_
       have xD := Gr.trans (Gr.trans (Gr.trans dQ io) qL) qM
       have fy := ((Kp.refl ([]) nI).gr xD)
       refine dn 0 rfl rfl fy<|dn 0 rfl rfl fy<|dn 0 rfl rfl fy<|dn 0 rfl rfl fy ?_
       have xE := (oJ.gr qM)
       refine qz [(1, Bg)] rfl (Qaj Qdv rfl rfl (Qad.cs_ones _ _ (Own.oneB kj)) xE rfl rfl) ⟨fun _ => tk0, trivial⟩ ?_
       rintro _ Bk ⟨Ez, nN⟩
       refine kM nN ?_
       have oK := (fy.md nN)
       refine dn 0 rfl rfl oK<|dn 0 rfl rfl oK<|Qa9 ?_
       have K_110 : Kz [] cB Bk := (((Kz.gr (Kz.refl _ _) cC).gr xD).md nN)
       have xF := (kk.md nN (Qd7 dL))
       exact ⟨rfl, ⟨xB.2.2, xB.2.1, kg, kh, ki⟩, sbq, hm, xF, ⟨(Qbs (A := (fun x => cB.heap.size ≤ x)) dL)⟩, K_110⟩
     refine Qal<|qz [] rfl (Qa8 (cs := Qad.cs (Qad.mk (Qae.mk 0 [] (Qah.mk 0#64 0#64)) 0 (Qbh.mk (Qbl.mk false 0 k0) (Qbl.mk false 0 k0))) (.slice none 0 0)) Qp5 rfl) ⟨fun _ => tk0, trivial⟩ ?_
     rintro _ FY ⟨Bl, rfl, Bm, oL, qN⟩
     have Bn := oL.lt
     refine kG qN ?_
     obtain ⟨FZ, xG, hm⟩ := bnd hm
     refine qz [] rfl (eC Qke rfl (Qbb xG)) ⟨fun _ => tk0, trivial⟩ ?_
     rintro _ F0 ⟨rfl, lN⟩
     have EA := lN.size
     refine kG lN ?_
     have nO := Gr.trans (Gr.trans (Gr.trans cC dQ) qN) lN
     have xH := (bx.gr nO)
     have xI := (((((aM.kz j).kz h).kz g).kz p).gr nO)
     have xJ := (((((aN.kz j).kz h).kz g).kz p).gr nO)
     have xK := (((((aO.kz j).kz h).kz g).kz p).gr nO)
     obtain ⟨xL, xM, hm⟩ := bnd hm
     refine qz [] rfl (eC Qx5 rfl (Qez xM (Own.rd xH) (Own.rd xI) (Own.rd xJ) (Own.rd xK))) ⟨fun _ => tk0, trivial⟩ ?_
     rintro _ F2 ⟨rp, rq, rr, kl, km, ko, rfl, kq, rs, kr, dM, Bo, qO⟩
     refine kG qO ?_
     have xN := Gr.trans (Gr.trans (Gr.trans dQ qN) lN) qO
     have fz := ((Kp.refl ([]) nI).gr xN)
     refine dn 0 rfl rfl fz<|dn 0 rfl rfl fz<|dn 0 rfl rfl fz<|dn 0 rfl rfl fz ?_
     have xO := ((oL.gr lN).gr qO)
     refine qz [(1, Bl)] rfl (Qaj Qdv rfl rfl (Qad.cs_ones _ _ (Own.oneB kq)) xO rfl rfl) ⟨fun _ => tk0, trivial⟩ ?_
     rintro _ Bp ⟨EB, nP⟩
     refine kM nP ?_
     have oM := (fz.md nP)
     refine dn 0 rfl rfl oM<|dn 0 rfl rfl oM<|Qa9 ?_
     have K_126 : Kz [] cB Bp := (((Kz.gr (Kz.refl _ _) cC).gr xN).md nP)
     have xP := (kr.md nP (Qd7 dM))
     exact ⟨rfl, ⟨xL.2.2, xL.2.1, kl, km, ko⟩, sbq, hm, xP, ⟨(Qbs (A := (fun x => cB.heap.size ≤ x)) dM)⟩, K_126⟩
   refine Qal<|qz [] rfl (Qa8 (cs := Qad.cs (Qad.mk (Qae.mk 0 [] (Qah.mk 0#64 0#64)) 0 (Qbh.mk (Qbl.mk false 0 k0) (Qbl.mk false 0 k0))) (.slice none 0 0)) Qp5 rfl) ⟨fun _ => tk0, trivial⟩ ?_
   rintro _ F3 ⟨Bq, rfl, Br, oN, qP⟩
   have Bs := oN.lt
   refine kG qP ?_
   obtain ⟨F4, xQ, hm⟩ := bnd hm
   refine qz [] rfl (eC Qs1 rfl (Qcz xQ)) ⟨fun _ => tk0, trivial⟩ ?_
   rintro _ F5 ⟨rfl, lO⟩
   have EC := lO.size
   refine kG lO ?_
   obtain ⟨F6, xR, hm⟩ := bnd hm
   refine qz [] rfl (eC Qke rfl (Qbb xR)) ⟨fun _ => tk0, trivial⟩ ?_
   rintro _ F7 ⟨rfl, lP⟩
   have ED := lP.size
   refine kG lP ?_
   have nQ := Gr.trans (Gr.trans (Gr.trans cC qP) lO) lP
   have xS := (bx.gr nQ)
   have xT := (((((aM.kz j).kz h).kz g).kz p).gr nQ)
   have xU := (((((aN.kz j).kz h).kz g).kz p).gr nQ)
   have xV := (((((aO.kz j).kz h).kz g).kz p).gr nQ)
   obtain ⟨xW, xX, hm⟩ := bnd hm
   refine qz [] rfl (eC Qx5 rfl (Qez xX (Own.rd xS) (Own.rd xT) (Own.rd xU) (Own.rd xV))) ⟨fun _ => tk0, trivial⟩ ?_
   rintro _ F8 ⟨rt, ru, rv, kt, ku, kw, rfl, kx, rx, ky, dN, Bt, qQ⟩
   refine kG qQ ?_
   have xY := Gr.trans (Gr.trans (Gr.trans qP lO) lP) qQ
   have fA := ((Kp.refl ([]) nI).gr xY)
   refine dn 0 rfl rfl fA<|dn 0 rfl rfl fA<|dn 0 rfl rfl fA<|dn 0 rfl rfl fA ?_
   have Bu := Gr.trans (Gr.trans lO lP) qQ
   have xZ := (oN.gr Bu)
   refine qz [(1, Bq)] rfl (Qaj Qdv rfl rfl (Qad.cs_ones _ _ (Own.oneB kx)) xZ rfl rfl) ⟨fun _ => tk0, trivial⟩ ?_
   rintro _ Bv ⟨EE, nR⟩
   refine kM nR ?_
   have oO := (fA.md nR)
   refine dn 0 rfl rfl oO<|dn 0 rfl rfl oO<|Qa9 ?_
   have K_143 : Kz [] cB Bv := (((Kz.gr (Kz.refl _ _) cC).gr xY).md nR)
   have x0 := (ky.md nR (Qd7 dN))
   exact ⟨rfl, ⟨xW.2.2, xW.2.1, kt, ku, kw⟩, sbq, hm, x0, ⟨(Qbs (A := (fun x => cB.heap.size ≤ x)) dN)⟩, K_143⟩
 clear hm; rintro ⟨lK, j8, vy39, zy39, gy39⟩ F9 ⟨hm, nS, za, aH⟩
 unfold Qnq at hm
 refine Qa3<|dw [([])] [] (.leaf [(2,10),(3,10),(0,0),(1,0),(4,0),(5,10),(6,10),(7,10),(8,10),(9,10)]) ?_
 intro Bw qR EF
 refine Qal ?_
 have ya := ((((nu.kz g).kz p).kz aH).gr qR)
 refine dh 0 rfl rfl (fun w hS => Qa4 Qdv rfl (Bx.kp ya hS) rfl) ?_
 have By := (((((((iH.kz u).kz j).kz h).kz g).kz p).kz aH).gr qR)
 refine dh 0 rfl rfl (fun w hS => Qa4 Qcr rfl (Bx.kp By hS) rfl) ?_
 obtain ⟨Ga, yb, hm⟩ := bnd hm
 refine qz [] rfl (eC Qs1 rfl (Qcz yb)) ⟨fun _ => tk0, trivial⟩ ?_
 rintro _ Gb ⟨rfl, qS⟩
 refine kG qS ?_
 obtain ⟨Gc, yc, hm⟩ := bnd hm
 refine qz [] rfl (eC Qke rfl (Qbb yc)) ⟨fun _ => tk0, trivial⟩ ?_
 rintro _ Gd ⟨rfl, qT⟩
 refine kG qT ?_
 have lQ := Gr.trans (Gr.trans qR qS) qT
 have yd := ((((nt.kz g).kz p).kz aH).gr lQ)
 have Bz := (((((((aJ.kz u).kz j).kz h).kz g).kz p).kz aH).gr lQ)
 have BB := (((((((aK.kz u).kz j).kz h).kz g).kz p).kz aH).gr lQ)
 have BC := (((((((aL.kz u).kz j).kz h).kz g).kz p).kz aH).gr lQ)
 obtain ⟨BD, ye, hm⟩ := bnd hm
 refine qz [] rfl (eC Qx5 rfl (Qez ye (Own.rd yd) (Own.rd Bz) (Own.rd BB) (Own.rd BC))) ⟨fun _ => tk0, trivial⟩ ?_
 rintro _ Ge ⟨ry, rz, rA, rB, rC, rD, rfl, rE, rF, rG, rH, BE, nT⟩
 refine kG nT ?_
 have yf := Gr.trans (Gr.trans qS qT) nT
 have lR := ((Kp.refl ([]) Bw).gr yf)
 refine dn 0 rfl rfl lR<|dn 0 rfl rfl lR<|dn 0 rfl rfl lR<|dn 0 rfl rfl lR<|dn 0 rfl rfl lR<|Qa1<|Qa3 ?_
 refine dw [([])] [] (.leaf [(2,10),(3,10),(0,0),(1,0),(4,0),(5,10),(6,10),(7,10),(8,10),(9,10)]) ?_
 intro BF qU EG
 refine Qal ?_
 have BG := Gr.trans yf qU
 have BH := (ya.gr BG)
 refine dh 0 rfl rfl (fun w hS => Qa4 Qdv rfl (Bx.kp BH hS) rfl) ?_
 have yg := Gr.trans (Gr.trans lQ nT) qU
 have BI := ((((((jj.kz j).kz h).kz g).kz p).kz aH).gr yg)
 refine dh 0 rfl rfl (fun w hS => Qa4 Qcr rfl (Bx.kp BI hS) rfl) ?_
 obtain ⟨Gf, yh, hm⟩ := bnd hm
 refine qz [] rfl (eC Qs1 rfl (Qcz yh)) ⟨fun _ => tk0, trivial⟩ ?_
 rintro _ Gg ⟨rfl, nU⟩
 refine kG nU ?_
 obtain ⟨Gh, yi, hm⟩ := bnd hm
 refine qz [] rfl (eC Qke rfl (Qbb yi)) ⟨fun _ => tk0, trivial⟩ ?_
 rintro _ Gi ⟨rfl, nV⟩
 refine kG nV ?_
 have BJ := Gr.trans (Gr.trans (Gr.trans nT qU) nU) nV
 have BK := (yd.gr BJ)
 have kA := Gr.trans (Gr.trans yg nU) nV
 have BL := ((((((aM.kz j).kz h).kz g).kz p).kz aH).gr kA)
 have BM := ((((((aN.kz j).kz h).kz g).kz p).kz aH).gr kA)
 have BN := ((((((aO.kz j).kz h).kz g).kz p).kz aH).gr kA)
 obtain ⟨BO, yj, hm⟩ := bnd hm
 refine qz [] rfl (eC Qx5 rfl (Qez yj (Own.rd BK) (Own.rd BL) (Own.rd BM) (Own.rd BN))) ⟨fun _ => tk0, trivial⟩ ?_
 rintro _ Gj ⟨rI, rJ, rK, rL, rM, rO, rfl, rP, rQ, rR, rS, BP, lS⟩
 refine kG lS ?_
 have BQ := Gr.trans (Gr.trans nU nV) lS
 have lT := ((Kp.refl ([]) BF).gr BQ)
 refine dn 0 rfl rfl lT<|dn 0 rfl rfl lT<|dn 0 rfl rfl lT<|dn 0 rfl rfl lT<|dn 0 rfl rfl lT<|Qa1<|Qa3 ?_
 refine qg 20 rfl<|qm rfl<|qv rfl (Qeh (a := jU) (b := 0) rfl rfl)<|qpF rfl (Qac rfl) (fun c3 => ?_) (fun c3 => ?_)
 · replace hm := iF c3 hm
   refine qk rfl<|qk rfl<|qm rfl<|qm rfl<|qk rfl<|qk rfl<|qk rfl ?_
   refine qm rfl<|qm rfl<|qk rfl<|qk rfl<|qm rfl<|qm rfl<|qk rfl ?_
   refine qk rfl<|qm rfl<|qm rfl<|Qa1<|Qag ?_
   have BR := Gr.trans kA lS
   have BT := ((lJ.kz aH).trans BR)
   cases hm
   refine ⟨_, _, rfl, Qb1 rfl (Qab rfl), ?_⟩
   exact ⟨rfl, BT⟩
 replace hm := iT c3 hm
 refine qm rfl<|qv rfl (Qeh (a := lK) (b := 0) rfl rfl)<|qm rfl<|qpF rfl (Qac rfl) (fun c4 => ?_) (fun c4 => ?_)
 · replace hm := iF c4 hm
   refine qk rfl<|qk rfl<|qk rfl<|qm rfl<|qm rfl<|qk rfl<|qk rfl ?_
   refine qm rfl<|qm rfl<|qk rfl<|qk rfl<|qm rfl<|qm rfl<|Qa1 ?_
   refine Qag ?_
   have BU := Gr.trans kA lS
   have BV := ((lJ.kz aH).trans BU)
   cases hm
   refine ⟨_, _, rfl, Qb1 rfl (Qab rfl), ?_⟩
   exact ⟨rfl, BV⟩
 replace hm := iT c4 hm
 refine qm rfl ?_
 have nW := Gr.trans kA lS
 have BW := (nS.gr nW)
 refine qv rfl (Xq6 (l := j8) Tryz.underlying50 Tryz.underlying5 Tryz.underlying9 rfl (Own.rd BW))<|qv rfl (Xop (l := j8) (m := [97#8, 98#8, 99#8]) rfl rfl)<|qm rfl<|qpF rfl (Qac rfl) (fun c5 => ?_) (fun c5 => ?_)
 · replace hm := iF c5 hm
   refine qk rfl<|qk rfl<|qm rfl<|qm rfl<|qk rfl<|qk rfl<|qm rfl ?_
   refine qm rfl<|Qa1<|Qag ?_
   have BX := ((lJ.kz aH).trans nW)
   cases hm
   refine ⟨_, _, rfl, Qb1 rfl (Qab rfl), ?_⟩
   exact ⟨rfl, BX⟩
 replace hm := iT c5 hm
 refine qm rfl<|qv rfl (Qeh (a := BD.2.2) (b := 6) rfl rfl)<|qm rfl<|qp rfl (Qac rfl) (fun c6 => ?_) (fun c6 => ?_)
 · replace hm := iT c6 hm
   refine qm rfl<|qv rfl (Qeh (a := BO.2.2) (b := 6) rfl rfl)<|qm rfl<|qm rfl<|Qa1<|Qag ?_
   have BY := ((lJ.kz aH).trans nW)
   cases hm
   refine ⟨_, _, rfl, Qb1 rfl (Qab rfl), ?_⟩
   exact ⟨rfl, BY⟩
 replace hm := iF c6 hm
 refine qk rfl<|qk rfl<|qm rfl<|qm rfl<|Qa1<|Qag ?_
 have B0 := ((lJ.kz aH).trans nW)
 cases hm
 refine ⟨_, _, rfl, Qb1 rfl (Qab rfl), ?_⟩
 exact ⟨rfl, B0⟩
end Go.Proofs.YtjdffpglgkefmaaGreat.Mx
