/- Walks that follow mirrors: Xf. Printed by mx.py. -/
import Derived.Test.YtjdffpglgkefmaaGreatXe
import Derived.Test.YtjdffpglgkefmaaGreatZd
set_option linter.unusedVariables false
set_option linter.unusedSimpArgs false
set_option maxRecDepth 100000
set_option maxHeartbeats 16000000
namespace Go.Proofs.YtjdffpglgkefmaaGreat.Mx
open Go Go.RowKit Go.Sx
theorem Xlm : ZV Tryz.prog 65 (.agg [.int .i64 0, .int .i64 0, .int .i64 0, .int .i64 0, .int .i64 0].toArray) := fun _ => by kernel_rfl
theorem Xnu : BS Tryz.prog 65 (fun i => [(0, 1), (1, 1), (2, 1), (3, 1), (4, 1)][i]?) [.int .i64 0, .int .i64 0, .int .i64 0, .int .i64 0, .int .i64 0] := Qpb Tryz.underlying65 Xlm ⟨rfl, (Qb3).siz, rfl, (Qb3).siz, rfl, (Qb3).siz, rfl, (Qb3).siz, rfl, (Qb3).siz, trivial⟩
theorem Qjm : En Tryz.prog 55 := fun _ _ => by kernel_rfl
theorem Xnp : En Tryz.prog 46 := fun _ _ => by kernel_rfl
theorem Xno : En Tryz.prog 45 := fun _ _ => by kernel_rfl
theorem Xny : En Tryz.prog 47 := fun _ _ => by kernel_rfl
theorem Xf3 : BSl Tryz.prog 44 2 3 1 [.int .i64 0, .int .i64 0] := Qq3 Tryz.underlying44 (Qb3).siz Xo9 rfl rfl (by kernel_rfl)
theorem Xo3 : En Tryz.prog 28 := fun _ _ => by kernel_rfl
theorem Xn8 : BA Tryz.prog 23 1 [.int .u8 0, .int .u8 0, .int .u8 0, .int .u8 0, .int .u8 0, .int .u8 0, .int .u8 0, .int .u8 0, .int .u8 0, .int .u8 0, .int .u8 0, .int .u8 0, .int .u8 0, .int .u8 0, .int .u8 0, .int .u8 0] := ⟨_, _, Tryz.underlying23, (Qcd).siz, Qef⟩
theorem Qqo : En Tryz.prog 59 := fun _ _ => by kernel_rfl
theorem Qwl : En Tryz.prog 29 := fun _ _ => by kernel_rfl
theorem Qr2 : BSl Tryz.prog 50 3 5 1 [.int .u8 0, .int .u8 0, .int .u8 0] := Qq3 Tryz.underlying50 (Qcd).siz Xjf rfl rfl (by kernel_rfl)
theorem Qqp : En Tryz.prog 31 := fun _ _ => by kernel_rfl
theorem Qw6 : En Tryz.prog 35 := fun _ _ => by kernel_rfl
theorem Qu2 : En Tryz.prog 37 := fun _ _ => by kernel_rfl
theorem Qbe {r} (hm : Qe9 = some r) {w : World} :
    Calls Tryz.prog 55 [].toArray w fun e w' => ∃ v, e = .returned v ∧ (v = .agg (Qf7.cs r).toArray ∧ Gr w w') := by
 unfold Qe9 at hm
 refine Qa5 2 Tryz.func55 rfl rfl rfl<|qs 1 rfl<|qe rfl (Qaa (cs := Qf7.cs (Qf7.mk 0 0 0 0 0)) Xlm rfl) ?_
 rintro _ w1 ⟨b1, rfl, c, a, G1⟩
 refine qd 2 rfl<|qv rfl (Qau (cs := Qf7.cs (Qf7.mk 100 10 20 6 2)) Xnu rfl rfl)<|qe rfl (Qah Qh2 rfl rfl rfl a rfl rfl) ?_
 rintro _ w2 ⟨b, M2⟩
 refine Qa1<|Qaf ?_
 have X4 := (((Gr.refl w).trans G1).md M2)
 cases hm
 refine ⟨_, _, rfl, Qay rfl (Qaq Qh2 rfl b rfl), ?_⟩
 exact ⟨rfl, X4⟩
theorem Qss {p0 p1 vp0 zp0 gp0 op0 vp1 zp1 gp1 op1 r} (hm : Qn1 p0 p1 = some r) {w : World} (d : Rd w zp0 gp0 op0 1 vp0 (p0.map ic)) (g : Rd w zp1 gp1 op1 1 vp1 (p1.map ic)) :
    Calls Tryz.prog 28 [vp0, vp1].toArray w fun e w' => ∃ v, e = .returned v ∧ (v = .bool r ∧ Gr w w') := by
 unfold Qn1 at hm
 refine Qa5 26 Tryz.func28 rfl rfl rfl<|qs 1 rfl<|qm rfl<|Qa1<|Qa3<|Qa3 ?_
 refine qg 5 rfl<|qm rfl<|qv rfl (Qba (l := p0) (c := ic) Tryz.underlying44 rfl d)<|qm rfl<|qv rfl (Qba (l := p1) (c := ic) Tryz.underlying44 rfl g)<|qv rfl (Qby (a := (p0.length : Int)) (b := (p1.length : Int)) rfl rfl)<|Qa1 ?_
 refine Qal rfl (fun c1 => ?_) (fun c1 => ?_)
 · replace hm := iT c1 hm
   refine qs 1 rfl<|qm rfl<|qb ?_
   cases hm
   refine ⟨_, _, rfl, Qay rfl (Qac rfl), ?_⟩
   exact ⟨rfl, (Gr.refl w)⟩
 replace hm := iF c1 hm
 refine qu<|Qa3<|qs 3 rfl<|qm rfl<|qv rfl (Qba (l := p0) (c := ic) Tryz.underlying44 rfl d) ?_
 refine qm rfl<|Qa1<|Qao<|Qbk (α := Nat × Int) ([4, 5] ++ rg 13 13) (fun ⟨n1, a2⟩ => [(4, .bool false), (13, .int .i64 a2)]) (fun ⟨n1, a2⟩ wr => (Qcr (Qhr p0 p1) n1 a2 = some r) ∧ Kz [] w wr) (fun ⟨n1, a2⟩ => n1) ⟨Qdn, 0⟩ ?_ ?_ ?_
 · exact sbq
 · exact ⟨hm, Kz.refl _ _⟩
 clear hm; rintro ⟨n1, a2⟩ w1 ⟨hm, K1⟩
 have hb := Qbt hm; clear hm; obtain ⟨n1, rfl, hm⟩ := hb
 generalize f : Qcr (Qhr p0 p1) n1 = m at hm
 unfold Qhr at hm
 try dsimp only at hm
 refine qs 1 rfl<|qv rfl (Qc9 (a := a2) (b := (p0.length : Int)) rfl rfl)<|Qa1<|Qa3<|cnF rfl (fun c2 => ?_) (fun c2 => ?_)
 · replace hm := iF c2 hm
   refine Qbq<|Qb6<|Qb6<|Qbo<|Qaz<|qs 1 rfl ?_
   refine qm rfl<|Qa1<|Qaf ?_
   have X8 := ((Gr.refl w).kz K1)
   cases hm
   refine ⟨_, _, rfl, Qay rfl (Qac rfl), ?_⟩
   exact ⟨rfl, X8⟩
 replace hm := iT c2 hm
 refine qu<|Qa3<|Qao<|qs 2 rfl<|qm rfl ?_
 refine qm rfl<|Qa1<|Qa3<|dw [([])] [] (.leaf [(0,10),(1,10),(2,10),(3,10),(4,10),(5,10),(6,10),(7,10),(8,10)]) ?_
 intro w2 G2 n
 refine Qam<|dm 0 rfl rfl<|dm 0 rfl rfl ?_
 obtain ⟨y3, h, hm⟩ := bnd hm
 have B4 := ((d.kz K1).gr G2)
 refine dh 0 rfl rfl (fun w hS => Qex (i := a2) Tryz.underlying44 (Qb3).siz rfl (Rd.kp B4 hS) rfl h)<|dh 0 rfl rfl (fun w hS => Qj8 (q := 0) (u := .int .i64 y3) Qb3 rfl (Rd.kp B4 hS) h (by first | rfl | omega) rfl)<|dm 0 rfl rfl<|dm 0 rfl rfl ?_
 obtain ⟨y4, j, hm⟩ := bnd hm
 have B5 := ((g.kz K1).gr G2)
 refine dh 0 rfl rfl (fun w hS => Qex (i := a2) Tryz.underlying44 (Qb3).siz rfl (Rd.kp B5 hS) rfl j)<|dh 0 rfl rfl (fun w hS => Qj8 (q := 0) (u := .int .i64 y4) Qb3 rfl (Rd.kp B5 hS) j (by first | rfl | omega) rfl)<|dh 0 rfl rfl (fun w hS => Qby (a := y3) (b := y4) rfl rfl)<|Qa1<|Qal rfl (fun c3 => ?_) (fun c3 => ?_)
 · replace hm := iT c3 hm
   refine qs 1 rfl<|qm rfl<|Qa1<|Qaf<|Qbl<|Qb2 ?_
   refine Qb2<|Qbl<|Qb2 ?_
   have X6 := (((Gr.refl w).kz K1).trans G2)
   cases hm
   refine ⟨_, _, rfl, Qay rfl (Qac rfl), ?_⟩
   exact ⟨rfl, X6⟩
 replace hm := iF c3 hm
 refine Qc5<|Qb1<|Qaz<|qg 2 rfl<|qv rfl (Qc6 (k := .i64) (a := a2) (b := 1) rfl rfl)<|qm rfl<|Qa9 ?_
 have K_7 : Kz [] w w2 := (K1.gr G2)
 subst f
 exact ⟨rfl, ⟨n1, w64 (a2 + 1)⟩, sbq, ⟨hm, K_7⟩, Nat.lt_succ_self _⟩
theorem Qcz {r} (hm : Qgw = some r) {w : World} :
    Calls Tryz.prog 59 [].toArray w fun e w' => ∃ v, e = .returned v ∧ (v = .agg (Qaj.cs r).toArray ∧ Gr w w') := by
 unfold Qgw at hm
 refine Qa5 2 Tryz.func59 rfl rfl rfl<|qs 1 rfl<|qe rfl (Qaa (cs := Qaj.cs (Qaj.mk 0#8 0 0 (Qfc.mk 0#64 0#64 0#64))) Xkd rfl) ?_
 rintro _ w1 ⟨b1, rfl, c, a, G1⟩
 refine qd 2 rfl<|qv rfl (Qau (cs := Qaj.cs (Qaj.mk 2#8 2 0 (Qfc.mk 0#64 0#64 0#64))) Xm2 rfl rfl)<|qe rfl (Qah Qcq rfl rfl rfl a rfl rfl) ?_
 rintro _ w2 ⟨b, M2⟩
 refine Qa1<|Qaf ?_
 have X4 := (((Gr.refl w).trans G1).md M2)
 cases hm
 refine ⟨_, _, rfl, Qay rfl (Qaq Qcq rfl b rfl), ?_⟩
 exact ⟨rfl, X4⟩
theorem Qvp {r} (hm : Qm0 = some r) {w : World} :
    Calls Tryz.prog 42 [].toArray w fun e w' => ∃ v, e = .returned v ∧ (v = .bool r ∧ Gr w w') := by
 unfold Qm0 at hm
 refine Qa5 184 Tryz.func42 rfl rfl rfl<|qs 1 rfl<|qm rfl<|qd 7 rfl ?_
 obtain ⟨x1, zc, hm⟩ := bnd hm
 refine qe rfl (eC Qjm rfl (Qbe zc)) ?_
 rintro _ w1 ⟨rfl, G1⟩
 have z1 := G1.size
 obtain ⟨x2, zd, hm⟩ := bnd hm
 refine qe rfl (eC Xm4 rfl (Qp9 zd)) ?_
 rintro _ w2 ⟨rfl, G2⟩
 have z2 := G2.size
 refine qm rfl<|qm rfl<|qm rfl<|qm rfl<|qm rfl<|Qa1<|Qa3 ?_
 refine qg 7 rfl ?_
 obtain ⟨x3, ze, hm⟩ := bnd hm
 refine qe rfl (eC Qjm rfl (Qbe ze)) ?_
 rintro _ w3 ⟨rfl, G3⟩
 have z3 := G3.size
 obtain ⟨x4, zg, hm⟩ := bnd hm
 refine qe rfl (eC Xkw rfl (Qo9 zg)) ?_
 rintro _ w4 ⟨rfl, G4⟩
 have z4 := G4.size
 refine qm rfl<|qm rfl<|qm rfl<|qm rfl<|qm rfl<|Qa1<|Qa3 ?_
 refine qg 7 rfl ?_
 obtain ⟨x5, zh, hm⟩ := bnd hm
 refine qe rfl (eC Qjm rfl (Qbe zh)) ?_
 rintro _ w5 ⟨rfl, G5⟩
 have z5 := G5.size
 obtain ⟨x6, zi, hm⟩ := bnd hm
 refine qe rfl (eC Xnp rfl (Qym zi)) ?_
 rintro _ w6 ⟨rT, rU, rV, rfl, ku, rW, G6⟩
 have z6 := G6.size
 refine qm rfl<|qm rfl<|qm rfl<|qm rfl<|qm rfl<|Qa1<|Qa3 ?_
 refine qg 7 rfl ?_
 obtain ⟨x7, zj, hm⟩ := bnd hm
 refine qe rfl (eC Qjm rfl (Qbe zj)) ?_
 rintro _ w7 ⟨rfl, G7⟩
 have z8 := G7.size
 obtain ⟨x8, zk, hm⟩ := bnd hm
 refine qe rfl (eC Xno rfl (Qsx zk)) ?_
 rintro _ w8 ⟨rfl, G8⟩
 have z9 := G8.size
 refine qm rfl<|qm rfl<|qm rfl<|qm rfl<|qm rfl<|Qa1<|Qa3 ?_
 refine qg 7 rfl ?_
 obtain ⟨x9, zl, hm⟩ := bnd hm
 refine qe rfl (eC Qjm rfl (Qbe zl)) ?_
 rintro _ w9 ⟨rfl, G9⟩
 have EJ := G9.size
 obtain ⟨rX, rY, hm⟩ := bnd hm
 refine qe rfl (eC Xny rfl (Qu5 rY)) ?_
 rintro _ zm ⟨rfl, oL⟩
 have EK := oL.size
 refine qm rfl<|qm rfl<|qm rfl<|qm rfl<|qm rfl<|Qa1<|Qa3 ?_
 have rZ := (((((((((((Gr.refl w).trans G1).trans G2).trans G3).trans G4).trans G5).trans G6).trans G7).trans G8).trans G9).trans oL)
 refine qj (β := Bool) (rg 45 40) (fun lQ => [(84, .bool lQ)]) (fun lQ wr => (Qcg lQ = some r) ∧ Kz [] zm wr) ?_ ?_
 · refine qg 40 rfl<|qm rfl<|qv rfl (Qby (a := x2.2) (b := 0) rfl rfl)<|qp rfl (Qad rfl) (fun oM => ?_) (fun oM => ?_)
   · replace hm := iT oM hm
     refine qk rfl<|qk rfl<|qm rfl<|qm rfl<|qk rfl<|qk rfl<|qm rfl ?_
     refine qm rfl<|qk rfl<|qk rfl<|qm rfl<|qm rfl<|qk rfl<|qk rfl ?_
     refine qm rfl<|qm rfl<|qk rfl<|qk rfl<|qk rfl<|qk rfl<|qm rfl ?_
     refine qm rfl<|qk rfl<|qk rfl<|qm rfl<|qm rfl<|qk rfl<|qk rfl ?_
     refine qm rfl<|qm rfl<|qk rfl<|qk rfl<|qm rfl<|qm rfl<|qk rfl ?_
     refine qk rfl<|qm rfl<|Qa9 ?_
     exact ⟨rfl, true, sbq, hm, kz0⟩
   replace hm := iF oM hm
   refine qm rfl<|qv rfl (Qby (a := x2.1) (b := 0) rfl rfl)<|qm rfl<|qp rfl (Qad rfl) (fun oN => ?_) (fun oN => ?_)
   · replace hm := iT oN hm
     refine qk rfl<|qk rfl<|qm rfl<|qm rfl<|qk rfl<|qk rfl<|qm rfl ?_
     refine qm rfl<|qk rfl<|qk rfl<|qm rfl<|qm rfl<|qk rfl<|qk rfl ?_
     refine qk rfl<|qk rfl<|qm rfl<|qm rfl<|qk rfl<|qk rfl<|qm rfl ?_
     refine qm rfl<|qk rfl<|qk rfl<|qm rfl<|qm rfl<|qk rfl<|qk rfl ?_
     refine qm rfl<|qm rfl<|qk rfl<|qk rfl<|qm rfl<|Qa9 ?_
     exact ⟨rfl, true, sbq, hm, kz0⟩
   replace hm := iF oN hm
   refine qm rfl<|qv rfl (Qby (a := x4.2) (b := 0) rfl rfl)<|qm rfl<|qp rfl (Qad rfl) (fun oO => ?_) (fun oO => ?_)
   · replace hm := iT oO hm
     refine qk rfl<|qk rfl<|qm rfl<|qm rfl<|qk rfl<|qk rfl<|qm rfl ?_
     refine qm rfl<|qk rfl<|qk rfl<|qk rfl<|qk rfl<|qm rfl<|qm rfl ?_
     refine qk rfl<|qk rfl<|qm rfl<|qm rfl<|qk rfl<|qk rfl<|qm rfl ?_
     refine qm rfl<|qk rfl<|qk rfl<|qm rfl<|qm rfl<|qk rfl<|qk rfl ?_
     refine qm rfl<|Qa9 ?_
     exact ⟨rfl, true, sbq, hm, kz0⟩
   replace hm := iF oO hm
   refine qm rfl<|qv rfl (Qby (a := x4.1) (b := 9) rfl rfl)<|qm rfl<|qp rfl (Qad rfl) (fun oP => ?_) (fun oP => ?_)
   · replace hm := iT oP hm
     refine qk rfl<|qk rfl<|qm rfl<|qm rfl<|qk rfl<|qk rfl<|qk rfl ?_
     refine qk rfl<|qm rfl<|qm rfl<|qk rfl<|qk rfl<|qm rfl<|qm rfl ?_
     refine qk rfl<|qk rfl<|qm rfl<|qm rfl<|qk rfl<|qk rfl<|qm rfl ?_
     refine qm rfl<|qk rfl<|qk rfl<|qm rfl<|Qa9 ?_
     exact ⟨rfl, true, sbq, hm, kz0⟩
   replace hm := iF oP hm
   refine qm rfl<|qv rfl (Qby (a := x6.2) (b := 0) rfl rfl)<|qm rfl<|qp rfl (Qad rfl) (fun oQ => ?_) (fun oQ => ?_)
   · replace hm := iT oQ hm
     refine qk rfl<|qk rfl<|qk rfl<|qk rfl<|qm rfl<|qm rfl<|qk rfl ?_
     refine qk rfl<|qm rfl<|qm rfl<|qk rfl<|qk rfl<|qm rfl<|qm rfl ?_
     refine qk rfl<|qk rfl<|qm rfl<|qm rfl<|qk rfl<|qk rfl<|qm rfl ?_
     refine Qa9 ?_
     exact ⟨rfl, true, sbq, hm, kz0⟩
   replace hm := iF oQ hm
   refine qm rfl<|qe rfl (Qcx [0, 1] ic Xf3 rfl rfl (Qh6 rfl) rfl rfl rfl) ?_
   rintro zn B3 ⟨zo, ym, oR, cD⟩
   have r0 := (((((ku.gr G7).gr G8).gr G9).gr oL).gr cD)
   obtain ⟨B4, oS, hm⟩ := bnd hm
   refine qe rfl (eC Xo3 rfl (Qss oS (Own.rd r0) (Own.rd oR))) ?_
   rintro _ B5 ⟨rfl, dQ⟩
   refine qv rfl (Qci rfl)<|qm rfl<|qp rfl (Qad rfl) (fun oT => ?_) (fun oT => ?_)
   · replace hm := Qc0 oT hm
     refine qk rfl<|qk rfl<|qm rfl<|qm rfl<|qk rfl<|qk rfl<|qm rfl ?_
     refine qm rfl<|qk rfl<|qk rfl<|qm rfl<|qm rfl<|qk rfl<|qk rfl ?_
     refine qm rfl<|Qa9 ?_
     have Y1 := Gr.trans cD dQ
     exact ⟨rfl, true, sbq, hm, (kz0.gr Y1)⟩
   replace hm := Qc1 oT hm
   refine qm rfl<|qv rfl (Qby (a := x8.2) (b := 0) rfl rfl)<|qm rfl<|qp rfl (Qad rfl) (fun oU => ?_) (fun oU => ?_)
   · replace hm := iT oU hm
     refine qk rfl<|qk rfl<|qm rfl<|qm rfl<|qk rfl<|qk rfl<|qm rfl ?_
     refine qm rfl<|qk rfl<|qk rfl<|qm rfl<|Qa9 ?_
     have Y2 := Gr.trans cD dQ
     exact ⟨rfl, true, sbq, hm, (kz0.gr Y2)⟩
   replace hm := iF oU hm
   refine qm rfl<|qv rfl (Qby (a := x8.1) (b := 9) rfl rfl)<|qm rfl<|qp rfl (Qad rfl) (fun oV => ?_) (fun oV => ?_)
   · replace hm := iT oV hm
     refine qk rfl<|qk rfl<|qm rfl<|qm rfl<|qk rfl<|qk rfl<|qm rfl ?_
     refine Qa9 ?_
     have Y3 := Gr.trans cD dQ
     exact ⟨rfl, true, sbq, hm, (kz0.gr Y3)⟩
   replace hm := iF oV hm
   refine qm rfl<|qv rfl (Qby (a := rX.2) (b := 0) rfl rfl)<|qm rfl<|qp rfl (Qad rfl) (fun oW => ?_) (fun oW => ?_)
   · replace hm := iT oW hm
     refine qk rfl<|qk rfl<|qm rfl<|Qa9 ?_
     have Y4 := Gr.trans cD dQ
     exact ⟨rfl, true, sbq, hm, (kz0.gr Y4)⟩
   replace hm := iF oW hm
   refine qm rfl<|qv rfl (Qci rfl)<|qm rfl<|Qa9 ?_
   have Y5 := Gr.trans cD dQ
   exact ⟨rfl, (!rX.1), sbq, hm, (kz0.gr Y5)⟩
 clear hm; rintro lQ EL ⟨hm, oX⟩
 have EM := oX.size
 unfold Qcg at hm
 refine Qal rfl (fun c1 => ?_) (fun c1 => ?_)
 · replace hm := Qc0 c1 hm
   refine qs 1 rfl<|qm rfl<|qb ?_
   have zp := (rZ.kz oX)
   cases hm
   refine ⟨_, _, rfl, Qay rfl (Qac rfl), ?_⟩
   exact ⟨rfl, zp⟩
 replace hm := Qc1 c1 hm
 refine qu<|qs 3 rfl<|qv rfl (Qp1 (cs := kb (72623842526232576#64, 0#64)) Xn8 rfl (by kernel_rfl))<|qe rfl (Qaa (cs := kb k0) Qef rfl) ?_
 rintro _ EN ⟨EO, rfl, zq, r1, zr⟩
 refine qe rfl (Qah Qai rfl rfl rfl r1 rfl rfl) ?_
 rintro _ i ⟨ik, zs⟩
 refine Qa1 ?_
 have zt := (((rZ.kz oX).trans zr).md zs)
 refine qj (β := Int × Qa4 × Nat × Value × Nat × Nat × Value × Nat × Nat × Value × Nat × Nat) ([2, 12] ++ rg 86 7) (fun ⟨dR, aP, bq13, vy15, zy15, gy15, vy16, zy16, gy16, vy17, zy17, gy17⟩ => [(2, .int .i64 dR), (12, .pointer (some ⟨bq13, 0, none⟩))]) (fun ⟨dR, aP, bq13, vy15, zy15, gy15, vy16, zy16, gy16, vy17, zy17, gy17⟩ wr => (Qk5 dR aP = some r) ∧ Own wr zy15 gy15 133 18 vy15 (aP.Head.Items.map Qbd.cs) ∧ Hdn (zy15 = 0 ∨ i.heap.size ≤ gy15) ∧ Own wr zy16 gy16 31 2 vy16 (aP.Head.Points.map Qag.cs) ∧ Hdn (zy16 = 0 ∨ i.heap.size ≤ gy16) ∧ Own wr zy17 gy17 5 1 vy17 (aP.Data.map bvc) ∧ Hdn (zy17 = 0 ∨ i.heap.size ≤ gy17) ∧ Bx wr bq13 52 (Qa4.cs aP vy15 vy16 vy17) ∧ i.heap.size ≤ bq13 ∧ Hdn (zy16 = 0 ∨ zy15 = 0 ∨ gy16 ≠ gy15) ∧ Hdn (zy17 = 0 ∨ zy15 = 0 ∨ gy17 ≠ gy15) ∧ Hdn (zy17 = 0 ∨ zy16 = 0 ∨ gy17 ≠ gy16) ∧ Hdn (zy15 = 0 ∨ gy15 ≠ bq13) ∧ Hdn (zy16 = 0 ∨ gy16 ≠ bq13) ∧ Hdn (zy17 = 0 ∨ gy17 ≠ bq13) ∧ Kz [] i wr) ?_ ?_
 · refine dw [([])] [] (.fork [(0,10)] (.fork [(1,0)] (.fork [(2,0)] (.leaf [(3,0),(4,10),(5,10),(6,10),(7,0),(8,0),(9,10)]) (.leaf [(7,0),(3,0),(4,10),(5,10),(6,10),(8,0),(9,10)])) (.leaf [(7,0),(2,0),(3,0),(4,10),(5,10),(6,10),(8,0),(9,10)])) (.fork [] (.fork [(2,0)] (.fork [(1,0)] (.leaf [(3,0),(4,10),(5,10),(6,10),(7,0),(8,0),(9,10)]) (.leaf [(7,0),(3,0),(4,10),(5,10),(6,10),(8,0),(9,10)])) (.leaf [(7,0),(1,0),(3,0),(4,10),(5,10),(6,10),(8,0),(9,10)])) (.fork [(7,0)] (.leaf [(1,0),(2,0),(3,0),(4,10),(5,10),(6,10),(8,0),(9,10)]) (.leaf [(2,0),(1,0),(3,0),(4,10),(5,10),(6,10),(8,0),(9,10)])))) ?_
   intro a1 aI zu
   refine Qbf ?_
   have r2 := (ik.gr aI)
   refine dh 0 rfl rfl (fun w hS => Qa6 Qai rfl (Bx.kp r2 hS) rfl)<|Qbx ?_ (Qbf (Qbx ?_ ?_))
   · refine Qbf ?_
     obtain ⟨B6, oY, hm⟩ := bnd hm
     refine qz [] rfl (eC Qqo rfl (Qcz oY)) ⟨fun _ => tk0, trivial⟩ ?_
     rintro _ B7 ⟨rfl, cE⟩
     have B8 := cE.size
     refine kG cE<|Qbx ?_ ?_
     · refine Qbf<|qz [] rfl (Qcx [2] ic Qnn rfl rfl (Qh6 rfl) rfl rfl rfl) ⟨fun _ => tk0, trivial⟩ ?_
       rintro zv B9 ⟨zw, yn, kw, dS⟩
       have Ca := dS.size
       refine kG dS<|Qbx ?_ ?_
       · refine Qam ?_
         obtain ⟨nT, oZ, hm⟩ := bnd hm
         refine qz [] rfl (eC Qwl rfl (Qg7 oZ (Own.rd kw))) ⟨fun _ => tk0, trivial⟩ ?_
         rintro _ Cb ⟨fy, fz, fA, fB, fC, fD, dT, dU, dV, rfl, bz, fE, bA, fF, a2, dW, lR, lS, lT, il⟩
         have Cc := il.size
         have kx := bz.lth
         have ky := bA.lth
         have kA := a2.lth
         refine kG il ?_
         have im := ((((Kp.refl ([]) a1).gr cE).gr dS).gr il)
         refine dn 0 rfl rfl im<|dn 0 rfl rfl im<|dn 0 rfl rfl im<|qz [] rfl (Qaa (cs := Qa4.cs (Qa4.mk 0#8 0 (Qa8.mk [] 0#64 [] k0 k0) 0#8 0#64 [] k0) (.slice none 0 0) (.slice none 0 0) (.slice none 0 0)) Qis rfl) ⟨fun _ => tk0, trivial⟩ ?_
         rintro _ Cd ⟨dX, rfl, yo, o0, cF⟩
         refine kG cF ?_
         have nU := (bz.gr cF)
         have nV := (bA.gr cF)
         have nW := (a2.gr cF)
         refine qz [(1, dX)] rfl (Qah Qbu rfl rfl (Qa4.cs_ones _ _ _ _ (Own.oneB nU) (Own.oneB nV) (Own.oneB nW)) o0 rfl rfl) ⟨fun _ => tk0, trivial⟩ ?_
         rintro _ r3 ⟨o1, cG⟩
         refine kM cG ?_
         have r4 := ((im.gr cF).md cG)
         refine dn 0 rfl rfl r4<|Qa9 ?_
         have K_589 : Kz [] i r3 := ((((((Kz.gr (Kz.refl _ _) aI).gr cE).gr dS).gr il).gr cF).md cG)
         have r5 := (nU.md cG (Qan kx))
         have r6 := (nV.md cG (Qan ky))
         have r7 := (nW.md cG (Qan kA))
         exact ⟨rfl, ⟨nT.2, nT.1, dX, fy, fz, fA, fB, fC, fD, dT, dU, dV⟩, sbq, hm, r5, ⟨(Qbn (A := (fun x => i.heap.size ≤ x)) fE)⟩, r6, ⟨(Qbn (A := (fun x => i.heap.size ≤ x)) fF)⟩, r7, ⟨(Qbn (A := (fun x => i.heap.size ≤ x)) dW)⟩, o1, (by omega), ⟨(tk1 lR.o)⟩, ⟨(tk1 lS.o)⟩, ⟨(tk1 lT.o)⟩, ⟨(Qki (A := (fun x => x ≠ dX)) kx)⟩, ⟨(Qki (A := (fun x => x ≠ dX)) ky)⟩, ⟨(Qki (A := (fun x => x ≠ dX)) kA)⟩, K_589⟩
       refine Qam<|qz [] rfl (Qaa (cs := Qa4.cs (Qa4.mk 0#8 0 (Qa8.mk [] 0#64 [] k0 k0) 0#8 0#64 [] k0) (.slice none 0 0) (.slice none 0 0) (.slice none 0 0)) Qis rfl) ⟨fun _ => tk0, trivial⟩ ?_
       rintro _ Ce ⟨dY, rfl, yp, kB, kC⟩
       have zx := kB.lt
       refine kG kC ?_
       have r8 := (kw.gr kC)
       obtain ⟨nX, o2, hm⟩ := bnd hm
       refine qz [] rfl (eC Qwl rfl (Qg7 o2 (Own.rd r8))) ⟨fun _ => tk0, trivial⟩ ?_
       rintro _ Cf ⟨fG, fH, fI, fJ, fK, fL, dZ, d0, d1, rfl, bB, U, bC, V, a3, z, lU, lV, lW, kD⟩
       refine kG kD ?_
       have Y6 := Gr.trans (Gr.trans (Gr.trans cE dS) kC) kD
       have io := ((Kp.refl ([]) a1).gr Y6)
       refine dn 0 rfl rfl io<|dn 0 rfl rfl io<|dn 0 rfl rfl io ?_
       have r9 := (kB.gr kD)
       refine qz [(1, dY)] rfl (Qah Qbu rfl rfl (Qa4.cs_ones _ _ _ _ (Own.oneB bB) (Own.oneB bC) (Own.oneB a3)) r9 rfl rfl) ⟨fun _ => tk0, trivial⟩ ?_
       rintro _ sa ⟨o3, cH⟩
       refine kM cH ?_
       have sb := (io.md cH)
       refine dn 0 rfl rfl sb<|Qa9 ?_
       have K_604 : Kz [] i sa := (((Kz.gr (Kz.refl _ _) aI).gr Y6).md cH)
       have sc := (bB.md cH (Qca U))
       have sd := (bC.md cH (Qca V))
       have se := (a3.md cH (Qca z))
       exact ⟨rfl, ⟨nX.2, nX.1, dY, fG, fH, fI, fJ, fK, fL, dZ, d0, d1⟩, sbq, hm, sc, ⟨(Qbn (A := (fun x => i.heap.size ≤ x)) U)⟩, sd, ⟨(Qbn (A := (fun x => i.heap.size ≤ x)) V)⟩, se, ⟨(Qbn (A := (fun x => i.heap.size ≤ x)) z)⟩, o3, (by omega), ⟨(tk1 lU.o)⟩, ⟨(tk1 lV.o)⟩, ⟨(tk1 lW.o)⟩, ⟨(Qbn (A := (fun x => x ≠ dY)) U)⟩, ⟨(Qbn (A := (fun x => x ≠ dY)) V)⟩, ⟨(Qbn (A := (fun x => x ≠ dY)) z)⟩, K_604⟩
     refine Qam<|qz [] rfl (Qaa (cs := Qa4.cs (Qa4.mk 0#8 0 (Qa8.mk [] 0#64 [] k0 k0) 0#8 0#64 [] k0) (.slice none 0 0) (.slice none 0 0) (.slice none 0 0)) Qis rfl) ⟨fun _ => tk0, trivial⟩ ?_
     rintro _ Cg ⟨d2, rfl, yq, kE, nY⟩
     have zy := kE.lt
     refine kG nY<|qz [] rfl (Qcx [2] ic Qnn rfl rfl (Qh6 rfl) rfl rfl rfl) ⟨fun _ => tk0, trivial⟩ ?_
     rintro zz Ch ⟨zA, yr, o4, ip⟩
     have Ci := ip.size
     refine kG ip ?_
     obtain ⟨nZ, o5, hm⟩ := bnd hm
     refine qz [] rfl (eC Qwl rfl (Qg7 o5 (Own.rd o4))) ⟨fun _ => tk0, trivial⟩ ?_
     rintro _ Cj ⟨fM, fN, fO, fP, fQ, fR, d3, d4, d5, rfl, bD, W, bE, X, a4, B, lX, lY, lZ, kF⟩
     refine kG kF ?_
     have Y7 := Gr.trans (Gr.trans (Gr.trans cE nY) ip) kF
     have iq := ((Kp.refl ([]) a1).gr Y7)
     refine dn 0 rfl rfl iq<|dn 0 rfl rfl iq<|dn 0 rfl rfl iq ?_
     have sf := ((kE.gr ip).gr kF)
     refine qz [(1, d2)] rfl (Qah Qbu rfl rfl (Qa4.cs_ones _ _ _ _ (Own.oneB bD) (Own.oneB bE) (Own.oneB a4)) sf rfl rfl) ⟨fun _ => tk0, trivial⟩ ?_
     rintro _ sg ⟨o6, cI⟩
     refine kM cI ?_
     have sh := (iq.md cI)
     refine dn 0 rfl rfl sh<|Qa9 ?_
     have K_620 : Kz [] i sg := (((Kz.gr (Kz.refl _ _) aI).gr Y7).md cI)
     have si := (bD.md cI (Qca W))
     have sj := (bE.md cI (Qca X))
     have sk := (a4.md cI (Qca B))
     exact ⟨rfl, ⟨nZ.2, nZ.1, d2, fM, fN, fO, fP, fQ, fR, d3, d4, d5⟩, sbq, hm, si, ⟨(Qbn (A := (fun x => i.heap.size ≤ x)) W)⟩, sj, ⟨(Qbn (A := (fun x => i.heap.size ≤ x)) X)⟩, sk, ⟨(Qbn (A := (fun x => i.heap.size ≤ x)) B)⟩, o6, (by omega), ⟨(tk1 lX.o)⟩, ⟨(tk1 lY.o)⟩, ⟨(tk1 lZ.o)⟩, ⟨(Qbn (A := (fun x => x ≠ d2)) W)⟩, ⟨(Qbn (A := (fun x => x ≠ d2)) X)⟩, ⟨(Qbn (A := (fun x => x ≠ d2)) B)⟩, K_620⟩
   · refine Qbf<|qz [] rfl (Qcx [2] ic Qnn rfl rfl (Qh6 rfl) rfl rfl rfl) ⟨fun _ => tk0, trivial⟩ ?_
     rintro zB Cl ⟨zC, ys, fS, cJ⟩
     have Cm := cJ.size
     refine kG cJ<|Qbx ?_ ?_
     · refine Qbf ?_
       obtain ⟨Cn, o7, hm⟩ := bnd hm
       refine qz [] rfl (eC Qqo rfl (Qcz o7)) ⟨fun _ => tk0, trivial⟩ ?_
       rintro _ Co ⟨rfl, bF⟩
       have Cp := bF.size
       refine kG bF<|Qbx ?_ ?_
       · refine Qam ?_
         have sl := (fS.gr bF)
         obtain ⟨n0, o8, hm⟩ := bnd hm
         refine qz [] rfl (eC Qwl rfl (Qg7 o8 (Own.rd sl))) ⟨fun _ => tk0, trivial⟩ ?_
         rintro _ Cq ⟨fT, fU, fV, fW, fX, fY, d6, d7, d8, rfl, bG, fZ, bH, f0, a5, d9, l0, l1, l2, ir⟩
         have Cr := ir.size
         have kH := bG.lth
         have kI := bH.lth
         have kJ := a5.lth
         refine kG ir ?_
         have it := ((((Kp.refl ([]) a1).gr cJ).gr bF).gr ir)
         refine dn 0 rfl rfl it<|dn 0 rfl rfl it<|dn 0 rfl rfl it<|qz [] rfl (Qaa (cs := Qa4.cs (Qa4.mk 0#8 0 (Qa8.mk [] 0#64 [] k0 k0) 0#8 0#64 [] k0) (.slice none 0 0) (.slice none 0 0) (.slice none 0 0)) Qis rfl) ⟨fun _ => tk0, trivial⟩ ?_
         rintro _ Cs ⟨ea, rfl, yt, o9, cK⟩
         refine kG cK ?_
         have n1 := (bG.gr cK)
         have n2 := (bH.gr cK)
         have n3 := (a5.gr cK)
         refine qz [(1, ea)] rfl (Qah Qbu rfl rfl (Qa4.cs_ones _ _ _ _ (Own.oneB n1) (Own.oneB n2) (Own.oneB n3)) o9 rfl rfl) ⟨fun _ => tk0, trivial⟩ ?_
         rintro _ sm ⟨pa, cL⟩
         refine kM cL ?_
         have sn := ((it.gr cK).md cL)
         refine dn 0 rfl rfl sn<|Qa9 ?_
         have K_640 : Kz [] i sm := ((((((Kz.gr (Kz.refl _ _) aI).gr cJ).gr bF).gr ir).gr cK).md cL)
         have so := (n1.md cL (Qan kH))
         have sp := (n2.md cL (Qan kI))
         have sq := (n3.md cL (Qan kJ))
         exact ⟨rfl, ⟨n0.2, n0.1, ea, fT, fU, fV, fW, fX, fY, d6, d7, d8⟩, sbq, hm, so, ⟨(Qbn (A := (fun x => i.heap.size ≤ x)) fZ)⟩, sp, ⟨(Qbn (A := (fun x => i.heap.size ≤ x)) f0)⟩, sq, ⟨(Qbn (A := (fun x => i.heap.size ≤ x)) d9)⟩, pa, (by omega), ⟨(tk1 l0.o)⟩, ⟨(tk1 l1.o)⟩, ⟨(tk1 l2.o)⟩, ⟨(Qki (A := (fun x => x ≠ ea)) kH)⟩, ⟨(Qki (A := (fun x => x ≠ ea)) kI)⟩, ⟨(Qki (A := (fun x => x ≠ ea)) kJ)⟩, K_640⟩
       refine Qam<|qz [] rfl (Qaa (cs := Qa4.cs (Qa4.mk 0#8 0 (Qa8.mk [] 0#64 [] k0 k0) 0#8 0#64 [] k0) (.slice none 0 0) (.slice none 0 0) (.slice none 0 0)) Qis rfl) ⟨fun _ => tk0, trivial⟩ ?_
       rintro _ Ct ⟨eb, rfl, yu, kK, kL⟩
       have zD := kK.lt
       refine kG kL ?_
       have sr := ((fS.gr bF).gr kL)
       obtain ⟨n4, pb, hm⟩ := bnd hm
       refine qz [] rfl (eC Qwl rfl (Qg7 pb (Own.rd sr))) ⟨fun _ => tk0, trivial⟩ ?_
       rintro _ Cu ⟨f1, f2, f3, f4, f5, f6, ec, ed, ee, rfl, bI, Y, bJ, Z, a6, C, l3, l4, l5, kN⟩
       refine kG kN ?_
       have Y8 := Gr.trans (Gr.trans (Gr.trans cJ bF) kL) kN
       have iu := ((Kp.refl ([]) a1).gr Y8)
       refine dn 0 rfl rfl iu<|dn 0 rfl rfl iu<|dn 0 rfl rfl iu ?_
       have ss := (kK.gr kN)
       refine qz [(1, eb)] rfl (Qah Qbu rfl rfl (Qa4.cs_ones _ _ _ _ (Own.oneB bI) (Own.oneB bJ) (Own.oneB a6)) ss rfl rfl) ⟨fun _ => tk0, trivial⟩ ?_
       rintro _ su ⟨pc, cM⟩
       refine kM cM ?_
       have sv := (iu.md cM)
       refine dn 0 rfl rfl sv<|Qa9 ?_
       have K_655 : Kz [] i su := (((Kz.gr (Kz.refl _ _) aI).gr Y8).md cM)
       have sw := (bI.md cM (Qca Y))
       have sx := (bJ.md cM (Qca Z))
       have sy := (a6.md cM (Qca C))
       exact ⟨rfl, ⟨n4.2, n4.1, eb, f1, f2, f3, f4, f5, f6, ec, ed, ee⟩, sbq, hm, sw, ⟨(Qbn (A := (fun x => i.heap.size ≤ x)) Y)⟩, sx, ⟨(Qbn (A := (fun x => i.heap.size ≤ x)) Z)⟩, sy, ⟨(Qbn (A := (fun x => i.heap.size ≤ x)) C)⟩, pc, (by omega), ⟨(tk1 l3.o)⟩, ⟨(tk1 l4.o)⟩, ⟨(tk1 l5.o)⟩, ⟨(Qbn (A := (fun x => x ≠ eb)) Y)⟩, ⟨(Qbn (A := (fun x => x ≠ eb)) Z)⟩, ⟨(Qbn (A := (fun x => x ≠ eb)) C)⟩, K_655⟩
     refine Qam<|qz [] rfl (Qaa (cs := Qa4.cs (Qa4.mk 0#8 0 (Qa8.mk [] 0#64 [] k0 k0) 0#8 0#64 [] k0) (.slice none 0 0) (.slice none 0 0) (.slice none 0 0)) Qis rfl) ⟨fun _ => tk0, trivial⟩ ?_
     rintro _ Cv ⟨ef, rfl, yv, kO, kP⟩
     have zE := kO.lt
     refine kG kP ?_
     obtain ⟨Cw, pd, hm⟩ := bnd hm
     refine qz [] rfl (eC Qqo rfl (Qcz pd)) ⟨fun _ => tk0, trivial⟩ ?_
     rintro _ Cx ⟨rfl, eg⟩
     have Cy := eg.size
     refine kG eg ?_
     have sz := ((fS.gr kP).gr eg)
     obtain ⟨n5, pe, hm⟩ := bnd hm
     refine qz [] rfl (eC Qwl rfl (Qg7 pe (Own.rd sz))) ⟨fun _ => tk0, trivial⟩ ?_
     rintro _ Cz ⟨f7, f8, f9, ga, gb, gc, eh, ei, ej, rfl, bK, aa, bL, ab, a7, D, l6, l7, l8, kQ⟩
     refine kG kQ ?_
     have Y9 := Gr.trans (Gr.trans (Gr.trans cJ kP) eg) kQ
     have iv := ((Kp.refl ([]) a1).gr Y9)
     refine dn 0 rfl rfl iv<|dn 0 rfl rfl iv<|dn 0 rfl rfl iv ?_
     have sA := ((kO.gr eg).gr kQ)
     refine qz [(1, ef)] rfl (Qah Qbu rfl rfl (Qa4.cs_ones _ _ _ _ (Own.oneB bK) (Own.oneB bL) (Own.oneB a7)) sA rfl rfl) ⟨fun _ => tk0, trivial⟩ ?_
     rintro _ sB ⟨pf, cN⟩
     refine kM cN ?_
     have sC := (iv.md cN)
     refine dn 0 rfl rfl sC<|Qa9 ?_
     have K_671 : Kz [] i sB := (((Kz.gr (Kz.refl _ _) aI).gr Y9).md cN)
     have sD := (bK.md cN (Qca aa))
     have sE := (bL.md cN (Qca ab))
     have sF := (a7.md cN (Qca D))
     exact ⟨rfl, ⟨n5.2, n5.1, ef, f7, f8, f9, ga, gb, gc, eh, ei, ej⟩, sbq, hm, sD, ⟨(Qbn (A := (fun x => i.heap.size ≤ x)) aa)⟩, sE, ⟨(Qbn (A := (fun x => i.heap.size ≤ x)) ab)⟩, sF, ⟨(Qbn (A := (fun x => i.heap.size ≤ x)) D)⟩, pf, (by omega), ⟨(tk1 l6.o)⟩, ⟨(tk1 l7.o)⟩, ⟨(tk1 l8.o)⟩, ⟨(Qbn (A := (fun x => x ≠ ef)) aa)⟩, ⟨(Qbn (A := (fun x => x ≠ ef)) ab)⟩, ⟨(Qbn (A := (fun x => x ≠ ef)) D)⟩, K_671⟩
   refine Qbf<|qz [] rfl (Qaa (cs := Qa4.cs (Qa4.mk 0#8 0 (Qa8.mk [] 0#64 [] k0 k0) 0#8 0#64 [] k0) (.slice none 0 0) (.slice none 0 0) (.slice none 0 0)) Qis rfl) ⟨fun _ => tk0, trivial⟩ ?_
   rintro _ CA ⟨T, rfl, yw, gf, kR⟩
   have zF := gf.lt
   refine kG kR<|Qbx ?_ ?_
   · refine Qam ?_
     obtain ⟨CB, pg, hm⟩ := bnd hm
     refine qz [] rfl (eC Qqo rfl (Qcz pg)) ⟨fun _ => tk0, trivial⟩ ?_
     rintro _ CC ⟨rfl, iw⟩
     have CD := iw.size
     refine kG iw<|qz [] rfl (Qcx [2] ic Qnn rfl rfl (Qh6 rfl) rfl rfl rfl) ⟨fun _ => tk0, trivial⟩ ?_
     rintro zH CE ⟨zI, yx, ph, ix⟩
     have CF := ix.size
     refine kG ix ?_
     obtain ⟨n6, pi, hm⟩ := bnd hm
     refine qz [] rfl (eC Qwl rfl (Qg7 pi (Own.rd ph))) ⟨fun _ => tk0, trivial⟩ ?_
     rintro _ CG ⟨gg, gh, gi, gj, gk, gl, ek, el, em, rfl, bM, ac, bN, ad, a8, E, l9, ma, mb, kS⟩
     refine kG kS ?_
     have sG := Gr.trans (Gr.trans (Gr.trans kR iw) ix) kS
     have iy := ((Kp.refl ([]) a1).gr sG)
     refine dn 0 rfl rfl iy<|dn 0 rfl rfl iy<|dn 0 rfl rfl iy ?_
     have zJ := Gr.trans (Gr.trans iw ix) kS
     have sH := (gf.gr zJ)
     refine qz [(1, T)] rfl (Qah Qbu rfl rfl (Qa4.cs_ones _ _ _ _ (Own.oneB bM) (Own.oneB bN) (Own.oneB a8)) sH rfl rfl) ⟨fun _ => tk0, trivial⟩ ?_
     rintro _ sI ⟨pj, cO⟩
     refine kM cO ?_
     have sJ := (iy.md cO)
     refine dn 0 rfl rfl sJ<|Qa9 ?_
     have K_688 : Kz [] i sI := (((Kz.gr (Kz.refl _ _) aI).gr sG).md cO)
     have sK := (bM.md cO (Qca ac))
     have sL := (bN.md cO (Qca ad))
     have sM := (a8.md cO (Qca E))
     exact ⟨rfl, ⟨n6.2, n6.1, T, gg, gh, gi, gj, gk, gl, ek, el, em⟩, sbq, hm, sK, ⟨(Qbn (A := (fun x => i.heap.size ≤ x)) ac)⟩, sL, ⟨(Qbn (A := (fun x => i.heap.size ≤ x)) ad)⟩, sM, ⟨(Qbn (A := (fun x => i.heap.size ≤ x)) E)⟩, pj, (by omega), ⟨(tk1 l9.o)⟩, ⟨(tk1 ma.o)⟩, ⟨(tk1 mb.o)⟩, ⟨(Qbn (A := (fun x => x ≠ T)) ac)⟩, ⟨(Qbn (A := (fun x => x ≠ T)) ad)⟩, ⟨(Qbn (A := (fun x => x ≠ T)) E)⟩, K_688⟩
   refine Qam<|qz [] rfl (Qcx [2] ic Qnn rfl rfl (Qh6 rfl) rfl rfl rfl) ⟨fun _ => tk0, trivial⟩ ?_
   rintro zK CH ⟨zL, yy, pk, iz⟩
   have CI := iz.size
   refine kG iz ?_
   obtain ⟨CJ, pl, hm⟩ := bnd hm
   refine qz [] rfl (eC Qqo rfl (Qcz pl)) ⟨fun _ => tk0, trivial⟩ ?_
   rintro _ CK ⟨rfl, en⟩
   have CL := en.size
   refine kG en ?_
   have sN := (pk.gr en)
   obtain ⟨n7, pm, hm⟩ := bnd hm
   refine qz [] rfl (eC Qwl rfl (Qg7 pm (Own.rd sN))) ⟨fun _ => tk0, trivial⟩ ?_
   rintro _ CM ⟨gm, gn, go, gp, gq, gs, eo, ep, er, rfl, bO, ae, bP, af, a9, F, mc, me, mf, kT⟩
   refine kG kT ?_
   have sO := Gr.trans (Gr.trans (Gr.trans kR iz) en) kT
   have iA := ((Kp.refl ([]) a1).gr sO)
   refine dn 0 rfl rfl iA<|dn 0 rfl rfl iA<|dn 0 rfl rfl iA ?_
   have zM := Gr.trans (Gr.trans iz en) kT
   have sP := (gf.gr zM)
   refine qz [(1, T)] rfl (Qah Qbu rfl rfl (Qa4.cs_ones _ _ _ _ (Own.oneB bO) (Own.oneB bP) (Own.oneB a9)) sP rfl rfl) ⟨fun _ => tk0, trivial⟩ ?_
   rintro _ sQ ⟨pn, cP⟩
   refine kM cP ?_
   have sR := (iA.md cP)
   refine dn 0 rfl rfl sR<|Qa9 ?_
   have K_704 : Kz [] i sQ := (((Kz.gr (Kz.refl _ _) aI).gr sO).md cP)
   have sS := (bO.md cP (Qca ae))
   have sT := (bP.md cP (Qca af))
   have sU := (a9.md cP (Qca F))
   exact ⟨rfl, ⟨n7.2, n7.1, T, gm, gn, go, gp, gq, gs, eo, ep, er⟩, sbq, hm, sS, ⟨(Qbn (A := (fun x => i.heap.size ≤ x)) ae)⟩, sT, ⟨(Qbn (A := (fun x => i.heap.size ≤ x)) af)⟩, sU, ⟨(Qbn (A := (fun x => i.heap.size ≤ x)) F)⟩, pn, (by omega), ⟨(tk1 mc.o)⟩, ⟨(tk1 me.o)⟩, ⟨(tk1 mf.o)⟩, ⟨(Qbn (A := (fun x => x ≠ T)) ae)⟩, ⟨(Qbn (A := (fun x => x ≠ T)) af)⟩, ⟨(Qbn (A := (fun x => x ≠ T)) F)⟩, K_704⟩
 clear hm; rintro ⟨dR, aP, bq13, vy15, zy15, gy15, vy16, zy16, gy16, vy17, zy17, gy17⟩ c ⟨hm, aJ, yz, aK, yA, aL, yB, iB, yC, yD, yE, sV, sW, sX, sY, mg⟩
 unfold Qk5 at hm
 have zN := (zt.kz mg)
 refine qj (β := Int × Qa4 × Nat × Value × Nat × Nat × Value × Nat × Nat × Value × Nat × Nat) ([4, 13] ++ rg 93 8) (fun ⟨gu, bu, bq19, vy21, zy21, gy21, vy22, zy22, gy22, vy23, zy23, gy23⟩ => [(4, .int .i64 gu), (13, .pointer (some ⟨bq19, 0, none⟩))]) (fun ⟨gu, bu, bq19, vy21, zy21, gy21, vy22, zy22, gy22, vy23, zy23, gy23⟩ wr => (Qmz dR aP gu bu = some r) ∧ Own wr zy21 gy21 133 18 vy21 (bu.Head.Items.map Qbd.cs) ∧ Hdn (zy21 = 0 ∨ c.heap.size ≤ gy21) ∧ Own wr zy22 gy22 31 2 vy22 (bu.Head.Points.map Qag.cs) ∧ Hdn (zy22 = 0 ∨ c.heap.size ≤ gy22) ∧ Own wr zy23 gy23 5 1 vy23 (bu.Data.map bvc) ∧ Hdn (zy23 = 0 ∨ c.heap.size ≤ gy23) ∧ Bx wr bq19 52 (Qa4.cs bu vy21 vy22 vy23) ∧ c.heap.size ≤ bq19 ∧ Hdn (zy22 = 0 ∨ zy21 = 0 ∨ gy22 ≠ gy21) ∧ Hdn (zy23 = 0 ∨ zy21 = 0 ∨ gy23 ≠ gy21) ∧ Hdn (zy23 = 0 ∨ zy22 = 0 ∨ gy23 ≠ gy22) ∧ Hdn (zy21 = 0 ∨ gy21 ≠ bq19) ∧ Hdn (zy22 = 0 ∨ gy22 ≠ bq19) ∧ Hdn (zy23 = 0 ∨ gy23 ≠ bq19) ∧ Kz [] c wr) ?_ ?_
 · refine dw [([])] [] (.fork [(0,10)] (.fork [(1,0)] (.fork [(2,0)] (.fork [(3,0)] (.leaf [(4,0),(5,10),(6,10),(7,10),(8,0),(9,0),(10,10)]) (.leaf [(8,0),(4,0),(5,10),(6,10),(7,10),(9,0),(10,10)])) (.leaf [(8,0),(3,0),(4,0),(5,10),(6,10),(7,10),(9,0),(10,10)])) (.leaf [(8,0),(2,0),(3,0),(4,0),(5,10),(6,10),(7,10),(9,0),(10,10)])) (.fork [] (.fork [(2,0)] (.fork [(1,0)] (.fork [(3,0)] (.leaf [(4,0),(5,10),(6,10),(7,10),(8,0),(9,0),(10,10)]) (.leaf [(8,0),(4,0),(5,10),(6,10),(7,10),(9,0),(10,10)])) (.leaf [(8,0),(3,0),(4,0),(5,10),(6,10),(7,10),(9,0),(10,10)])) (.fork [] (.fork [(3,0)] (.fork [(1,0)] (.leaf [(4,0),(5,10),(6,10),(7,10),(8,0),(9,0),(10,10)]) (.leaf [(8,0),(4,0),(5,10),(6,10),(7,10),(9,0),(10,10)])) (.leaf [(8,0),(1,0),(4,0),(5,10),(6,10),(7,10),(9,0),(10,10)])) (.fork [(8,0)] (.leaf [(1,0),(3,0),(4,0),(5,10),(6,10),(7,10),(9,0),(10,10)]) (.leaf [(3,0),(1,0),(4,0),(5,10),(6,10),(7,10),(9,0),(10,10)])))) (.fork [(8,0)] (.leaf [(1,0),(2,0),(3,0),(4,0),(5,10),(6,10),(7,10),(9,0),(10,10)]) (.fork [(2,0)] (.leaf [(1,0),(3,0),(4,0),(5,10),(6,10),(7,10),(9,0),(10,10)]) (.leaf [(3,0),(1,0),(4,0),(5,10),(6,10),(7,10),(9,0),(10,10)]))))) ?_
   intro d n zO
   refine Qbf ?_
   have sZ := ((ik.kz mg).gr n)
   refine dh 0 rfl rfl (fun w hS => Qa6 Qai rfl (Bx.kp sZ hS) rfl)<|Qbx ?_ (Qbf (Qbx ?_ ?_))
   · refine Qbf ?_
     obtain ⟨EP, s0, hm⟩ := bnd hm
     refine qz [] rfl (eC Qjm rfl (Qbe s0)) ⟨fun _ => tk0, trivial⟩ ?_
     rintro _ CN ⟨rfl, ba⟩
     have CO := ba.size
     refine kG ba<|Qbx ?_ ?_
     · refine Qbf<|qz [] rfl (Qcx [97#8, 98#8, 99#8] bvc Qr2 rfl rfl (Qh6 rfl) rfl rfl rfl) ⟨fun _ => tk0, trivial⟩ ?_
       rintro zQ CP ⟨s, yF, gv, cQ⟩
       have CQ := cQ.size
       have po := gv.lth
       refine kG cQ<|Qbx ?_ ?_
       · refine Qbf<|qz [(1, s)] rfl (Qot Tryz.underlying50 Tryz.underlying5 rfl gv) ⟨fun _ => (tk1 ((.inr tk0) : 1 = 0 ∨ d.heap.size ≤ s)), trivial⟩ ?_
         rintro zR CR ⟨kU, aQ⟩
         have CS := aQ.size
         refine ⟨Kz.ofKa aQ, ?_⟩
         refine Qbx ?_ ?_
         · refine Qam ?_
           obtain ⟨s1, s2, hm⟩ := bnd hm
           refine qz [] rfl (eC Qqp rfl (Qc7 s2 kU)) ⟨fun _ => tk0, trivial⟩ ?_
           rintro _ CT ⟨gw, gx, gy, gz, gA, gB, es, et, eu, rfl, bQ, gC, bR, gD, bb, ew, mh, mj, ml, iC⟩
           have CU := iC.size
           have kV := bQ.lth
           have kW := bR.lth
           have kX := bb.lth
           refine kG iC ?_
           have s3 := Gr.trans ba cQ
           have iD := ((((Kp.refl ([]) d).gr s3).ka aQ (tk1 ((.inr tk0) : 1 = 0 ∨ d.heap.size ≤ s))).gr iC)
           refine dn 0 rfl rfl iD<|dn 0 rfl rfl iD<|dn 0 rfl rfl iD<|qz [] rfl (Qaa (cs := Qa4.cs (Qa4.mk 0#8 0 (Qa8.mk [] 0#64 [] k0 k0) 0#8 0#64 [] k0) (.slice none 0 0) (.slice none 0 0) (.slice none 0 0)) Qis rfl) ⟨fun _ => tk0, trivial⟩ ?_
           rintro _ CW ⟨ex, rfl, yG, pp, cR⟩
           refine kG cR ?_
           have n8 := (bQ.gr cR)
           have n9 := (bR.gr cR)
           have oa := (bb.gr cR)
           refine qz [(1, ex)] rfl (Qah Qbu rfl rfl (Qa4.cs_ones _ _ _ _ (Own.oneB n8) (Own.oneB n9) (Own.oneB oa)) pp rfl rfl) ⟨fun _ => tk0, trivial⟩ ?_
           rintro _ s4 ⟨pq, cS⟩
           refine kM cS ?_
           have s5 := ((iD.gr cR).md cS)
           refine dn 0 rfl rfl s5<|Qa9 ?_
           have K_326 : Kz [] c s4 := ((((((Kz.gr (Kz.refl _ _) n).gr s3).ka aQ (tk1 ((.inr tk0) : 1 = 0 ∨ c.heap.size ≤ s))).gr iC).gr cR).md cS)
           have s6 := (n8.md cS (Qan kV))
           have s7 := (n9.md cS (Qan kW))
           have s8 := (oa.md cS (Qan kX))
           exact ⟨rfl, ⟨s1.2, s1.1, ex, gw, gx, gy, gz, gA, gB, es, et, eu⟩, sbq, hm, s6, ⟨(Qbn (A := (fun x => c.heap.size ≤ x)) gC)⟩, s7, ⟨(Qbn (A := (fun x => c.heap.size ≤ x)) gD)⟩, s8, ⟨(Qbn (A := (fun x => c.heap.size ≤ x)) ew)⟩, pq, (by omega), ⟨(tk1 mh.o)⟩, ⟨(tk1 mj.o)⟩, ⟨(tk1 ml.o)⟩, ⟨(Qki (A := (fun x => x ≠ ex)) kV)⟩, ⟨(Qki (A := (fun x => x ≠ ex)) kW)⟩, ⟨(Qki (A := (fun x => x ≠ ex)) kX)⟩, K_326⟩
         refine Qam<|qz [] rfl (Qaa (cs := Qa4.cs (Qa4.mk 0#8 0 (Qa8.mk [] 0#64 [] k0 k0) 0#8 0#64 [] k0) (.slice none 0 0) (.slice none 0 0) (.slice none 0 0)) Qis rfl) ⟨fun _ => tk0, trivial⟩ ?_
         rintro _ CX ⟨ey, rfl, yH, kY, iE⟩
         have zS := kY.lt
         refine kG iE ?_
         have s9 := (kU.gr iE)
         obtain ⟨ta, tb, hm⟩ := bnd hm
         refine qz [] rfl (eC Qqp rfl (Qc7 tb s9)) ⟨fun _ => tk0, trivial⟩ ?_
         rintro _ CY ⟨gE, gF, gG, gH, gI, gJ, ez, eA, eB, rfl, bS, ag, bT, ah, bc, G, mm, mn, mo, iG⟩
         refine kG iG ?_
         have tc := Gr.trans ba cQ
         have iH := (((((Kp.refl ([]) d).gr tc).ka aQ (tk1 ((.inr tk0) : 1 = 0 ∨ d.heap.size ≤ s))).gr iE).gr iG)
         refine dn 0 rfl rfl iH<|dn 0 rfl rfl iH<|dn 0 rfl rfl iH ?_
         have td := (kY.gr iG)
         refine qz [(1, ey)] rfl (Qah Qbu rfl rfl (Qa4.cs_ones _ _ _ _ (Own.oneB bS) (Own.oneB bT) (Own.oneB bc)) td rfl rfl) ⟨fun _ => tk0, trivial⟩ ?_
         rintro _ te ⟨pr, cT⟩
         refine kM cT ?_
         have tf := (iH.md cT)
         refine dn 0 rfl rfl tf<|Qa9 ?_
         have K_341 : Kz [] c te := ((((((Kz.gr (Kz.refl _ _) n).gr tc).ka aQ (tk1 ((.inr tk0) : 1 = 0 ∨ c.heap.size ≤ s))).gr iE).gr iG).md cT)
         have tg := (bS.md cT (Qca ag))
         have th := (bT.md cT (Qca ah))
         have ti := (bc.md cT (Qca G))
         exact ⟨rfl, ⟨ta.2, ta.1, ey, gE, gF, gG, gH, gI, gJ, ez, eA, eB⟩, sbq, hm, tg, ⟨(Qbn (A := (fun x => c.heap.size ≤ x)) ag)⟩, th, ⟨(Qbn (A := (fun x => c.heap.size ≤ x)) ah)⟩, ti, ⟨(Qbn (A := (fun x => c.heap.size ≤ x)) G)⟩, pr, (by omega), ⟨(tk1 mm.o)⟩, ⟨(tk1 mn.o)⟩, ⟨(tk1 mo.o)⟩, ⟨(Qbn (A := (fun x => x ≠ ey)) ag)⟩, ⟨(Qbn (A := (fun x => x ≠ ey)) ah)⟩, ⟨(Qbn (A := (fun x => x ≠ ey)) G)⟩, K_341⟩
       refine Qam<|qz [] rfl (Qaa (cs := Qa4.cs (Qa4.mk 0#8 0 (Qa8.mk [] 0#64 [] k0 k0) 0#8 0#64 [] k0) (.slice none 0 0) (.slice none 0 0) (.slice none 0 0)) Qis rfl) ⟨fun _ => tk0, trivial⟩ ?_
       rintro _ CZ ⟨cU, rfl, yI, kZ, iI⟩
       have zT := kZ.lt
       refine kG iI ?_
       have tj := (gv.gr iI)
       refine qz [(1, s)] rfl (Qot Tryz.underlying50 Tryz.underlying5 rfl tj) ⟨fun _ => (tk1 ((.inr tk0) : 1 = 0 ∨ d.heap.size ≤ s)), trivial⟩ ?_
       rintro zU C0 ⟨pt, bU⟩
       have C1 := bU.size
       refine ⟨Kz.ofKa bU, ?_⟩
       obtain ⟨tk, tl, hm⟩ := bnd hm
       refine qz [] rfl (eC Qqp rfl (Qc7 tl pt)) ⟨fun _ => tk0, trivial⟩ ?_
       rintro _ C2 ⟨gK, gL, gM, gN, gO, gP, eD, eE, eF, rfl, bV, ai, bW, aj, bd, H, mp, mq, mr, iJ⟩
       refine kG iJ ?_
       have iK := ((((((Kp.refl ([]) d).gr ba).gr cQ).gr iI).ka bU (tk1 ((.inr tk0) : 1 = 0 ∨ d.heap.size ≤ s))).gr iJ)
       refine dn 0 rfl rfl iK<|dn 0 rfl rfl iK<|dn 0 rfl rfl iK ?_
       have tm := ((kZ.ka bU (tk1 (Qan (b := cU) po))).gr iJ)
       refine qz [(1, cU)] rfl (Qah Qbu rfl rfl (Qa4.cs_ones _ _ _ _ (Own.oneB bV) (Own.oneB bW) (Own.oneB bd)) tm rfl rfl) ⟨fun _ => tk0, trivial⟩ ?_
       rintro _ tn ⟨pu, cV⟩
       refine kM cV ?_
       have tp := (iK.md cV)
       refine dn 0 rfl rfl tp<|Qa9 ?_
       have K_358 : Kz [] c tn := (((((((Kz.gr (Kz.refl _ _) n).gr ba).gr cQ).gr iI).ka bU (tk1 ((.inr tk0) : 1 = 0 ∨ c.heap.size ≤ s))).gr iJ).md cV)
       have tq := (bV.md cV (Qca ai))
       have tr := (bW.md cV (Qca aj))
       have ts := (bd.md cV (Qca H))
       exact ⟨rfl, ⟨tk.2, tk.1, cU, gK, gL, gM, gN, gO, gP, eD, eE, eF⟩, sbq, hm, tq, ⟨(Qbn (A := (fun x => c.heap.size ≤ x)) ai)⟩, tr, ⟨(Qbn (A := (fun x => c.heap.size ≤ x)) aj)⟩, ts, ⟨(Qbn (A := (fun x => c.heap.size ≤ x)) H)⟩, pu, (by omega), ⟨(tk1 mp.o)⟩, ⟨(tk1 mq.o)⟩, ⟨(tk1 mr.o)⟩, ⟨(Qbn (A := (fun x => x ≠ cU)) ai)⟩, ⟨(Qbn (A := (fun x => x ≠ cU)) aj)⟩, ⟨(Qbn (A := (fun x => x ≠ cU)) H)⟩, K_358⟩
     refine Qam<|qz [] rfl (Qaa (cs := Qa4.cs (Qa4.mk 0#8 0 (Qa8.mk [] 0#64 [] k0 k0) 0#8 0#64 [] k0) (.slice none 0 0) (.slice none 0 0) (.slice none 0 0)) Qis rfl) ⟨fun _ => tk0, trivial⟩ ?_
     rintro _ C3 ⟨cW, rfl, yJ, la, lb⟩
     have zV := la.lt
     refine kG lb<|qz [] rfl (Qcx [97#8, 98#8, 99#8] bvc Qr2 rfl rfl (Qh6 rfl) rfl rfl rfl) ⟨fun _ => tk0, trivial⟩ ?_
     rintro zW C4 ⟨bX, yK, pw, eG⟩
     have C5 := eG.size
     refine kG eG<|qz [(1, bX)] rfl (Qot Tryz.underlying50 Tryz.underlying5 rfl pw) ⟨fun _ => (tk1 ((.inr tk0) : 1 = 0 ∨ d.heap.size ≤ bX)), trivial⟩ ?_
     rintro zX C6 ⟨px, bY⟩
     have C7 := bY.size
     refine ⟨Kz.ofKa bY, ?_⟩
     obtain ⟨tt, tu, hm⟩ := bnd hm
     refine qz [] rfl (eC Qqp rfl (Qc7 tu px)) ⟨fun _ => tk0, trivial⟩ ?_
     rintro _ C8 ⟨gQ, gR, gS, gT, gU, gV, eH, eI, eJ, rfl, bZ, ak, b0, al, bf, I, ms, mt, mu, iL⟩
     refine kG iL ?_
     have iM := ((((((Kp.refl ([]) d).gr ba).gr lb).gr eG).ka bY (tk1 ((.inr tk0) : 1 = 0 ∨ d.heap.size ≤ bX))).gr iL)
     refine dn 0 rfl rfl iM<|dn 0 rfl rfl iM<|dn 0 rfl rfl iM ?_
     have tv := (((la.gr eG).ka bY (tk1 ((.inr tk0) : 1 = 0 ∨ bX ≠ cW))).gr iL)
     refine qz [(1, cW)] rfl (Qah Qbu rfl rfl (Qa4.cs_ones _ _ _ _ (Own.oneB bZ) (Own.oneB b0) (Own.oneB bf)) tv rfl rfl) ⟨fun _ => tk0, trivial⟩ ?_
     rintro _ tw ⟨py, cX⟩
     refine kM cX ?_
     have tx := (iM.md cX)
     refine dn 0 rfl rfl tx<|Qa9 ?_
     have K_376 : Kz [] c tw := (((((((Kz.gr (Kz.refl _ _) n).gr ba).gr lb).gr eG).ka bY (tk1 ((.inr tk0) : 1 = 0 ∨ c.heap.size ≤ bX))).gr iL).md cX)
     have ty := (bZ.md cX (Qca ak))
     have tz := (b0.md cX (Qca al))
     have tA := (bf.md cX (Qca I))
     exact ⟨rfl, ⟨tt.2, tt.1, cW, gQ, gR, gS, gT, gU, gV, eH, eI, eJ⟩, sbq, hm, ty, ⟨(Qbn (A := (fun x => c.heap.size ≤ x)) ak)⟩, tz, ⟨(Qbn (A := (fun x => c.heap.size ≤ x)) al)⟩, tA, ⟨(Qbn (A := (fun x => c.heap.size ≤ x)) I)⟩, py, (by omega), ⟨(tk1 ms.o)⟩, ⟨(tk1 mt.o)⟩, ⟨(tk1 mu.o)⟩, ⟨(Qbn (A := (fun x => x ≠ cW)) ak)⟩, ⟨(Qbn (A := (fun x => x ≠ cW)) al)⟩, ⟨(Qbn (A := (fun x => x ≠ cW)) I)⟩, K_376⟩
   · refine Qbf<|qz [] rfl (Qcx [97#8, 98#8, 99#8] bvc Qr2 rfl rfl (Qh6 rfl) rfl rfl rfl) ⟨fun _ => tk0, trivial⟩ ?_
     rintro zY C9 ⟨f, yL, aR, q⟩
     have Da := q.size
     have gW := aR.lth
     refine kG q<|Qbx ?_ (Qbf (Qbx ?_ ?_))
     · refine Qbf ?_
       obtain ⟨EQ, tB, hm⟩ := bnd hm
       refine qz [] rfl (eC Qjm rfl (Qbe tB)) ⟨fun _ => tk0, trivial⟩ ?_
       rintro _ Db ⟨rfl, bg⟩
       have Dc := bg.size
       refine kG bg<|Qbx ?_ ?_
       · refine Qbf ?_
         have tC := (aR.gr bg)
         refine qz [(1, f)] rfl (Qot Tryz.underlying50 Tryz.underlying5 rfl tC) ⟨fun _ => (tk1 ((.inr tk0) : 1 = 0 ∨ d.heap.size ≤ f)), trivial⟩ ?_
         rintro zZ Dd ⟨lc, aS⟩
         have De := aS.size
         refine ⟨Kz.ofKa aS, ?_⟩
         refine Qbx ?_ ?_
         · refine Qam ?_
           obtain ⟨tD, tE, hm⟩ := bnd hm
           refine qz [] rfl (eC Qqp rfl (Qc7 tE lc)) ⟨fun _ => tk0, trivial⟩ ?_
           rintro _ Dg ⟨gX, gY, gZ, g0, g1, g2, eK, eL, eM, rfl, b1, g3, b2, g4, bh, eN, mv, mw, mx, iN⟩
           have Dh := iN.size
           have ld := b1.lth
           have lf := b2.lth
           have lh := bh.lth
           refine kG iN ?_
           have tF := Gr.trans q bg
           have iO := ((((Kp.refl ([]) d).gr tF).ka aS (tk1 ((.inr tk0) : 1 = 0 ∨ d.heap.size ≤ f))).gr iN)
           refine dn 0 rfl rfl iO<|dn 0 rfl rfl iO<|dn 0 rfl rfl iO<|qz [] rfl (Qaa (cs := Qa4.cs (Qa4.mk 0#8 0 (Qa8.mk [] 0#64 [] k0 k0) 0#8 0#64 [] k0) (.slice none 0 0) (.slice none 0 0) (.slice none 0 0)) Qis rfl) ⟨fun _ => tk0, trivial⟩ ?_
           rintro _ Di ⟨eO, rfl, yM, pz, cY⟩
           refine kG cY ?_
           have ob := (b1.gr cY)
           have oc := (b2.gr cY)
           have oe := (bh.gr cY)
           refine qz [(1, eO)] rfl (Qah Qbu rfl rfl (Qa4.cs_ones _ _ _ _ (Own.oneB ob) (Own.oneB oc) (Own.oneB oe)) pz rfl rfl) ⟨fun _ => tk0, trivial⟩ ?_
           rintro _ tG ⟨pA, cZ⟩
           refine kM cZ ?_
           have tH := ((iO.gr cY).md cZ)
           refine dn 0 rfl rfl tH<|Qa9 ?_
           have K_398 : Kz [] c tG := ((((((Kz.gr (Kz.refl _ _) n).gr tF).ka aS (tk1 ((.inr tk0) : 1 = 0 ∨ c.heap.size ≤ f))).gr iN).gr cY).md cZ)
           have tI := (ob.md cZ (Qan ld))
           have tJ := (oc.md cZ (Qan lf))
           have tK := (oe.md cZ (Qan lh))
           exact ⟨rfl, ⟨tD.2, tD.1, eO, gX, gY, gZ, g0, g1, g2, eK, eL, eM⟩, sbq, hm, tI, ⟨(Qbn (A := (fun x => c.heap.size ≤ x)) g3)⟩, tJ, ⟨(Qbn (A := (fun x => c.heap.size ≤ x)) g4)⟩, tK, ⟨(Qbn (A := (fun x => c.heap.size ≤ x)) eN)⟩, pA, (by omega), ⟨(tk1 mv.o)⟩, ⟨(tk1 mw.o)⟩, ⟨(tk1 mx.o)⟩, ⟨(Qki (A := (fun x => x ≠ eO)) ld)⟩, ⟨(Qki (A := (fun x => x ≠ eO)) lf)⟩, ⟨(Qki (A := (fun x => x ≠ eO)) lh)⟩, K_398⟩
         refine Qam<|qz [] rfl (Qaa (cs := Qa4.cs (Qa4.mk 0#8 0 (Qa8.mk [] 0#64 [] k0 k0) 0#8 0#64 [] k0) (.slice none 0 0) (.slice none 0 0) (.slice none 0 0)) Qis rfl) ⟨fun _ => tk0, trivial⟩ ?_
         rintro _ Dj ⟨eP, rfl, yN, li, iP⟩
         have z0 := li.lt
         refine kG iP ?_
         have tL := (lc.gr iP)
         obtain ⟨tM, tN, hm⟩ := bnd hm
         refine qz [] rfl (eC Qqp rfl (Qc7 tN tL)) ⟨fun _ => tk0, trivial⟩ ?_
         rintro _ Dk ⟨g5, g6, g7, g8, g9, ha, eQ, eR, eS, rfl, b3, am, b4, an, bi, J, my, mz, mA, iQ⟩
         refine kG iQ ?_
         have tO := Gr.trans q bg
         have iR := (((((Kp.refl ([]) d).gr tO).ka aS (tk1 ((.inr tk0) : 1 = 0 ∨ d.heap.size ≤ f))).gr iP).gr iQ)
         refine dn 0 rfl rfl iR<|dn 0 rfl rfl iR<|dn 0 rfl rfl iR ?_
         have tP := (li.gr iQ)
         refine qz [(1, eP)] rfl (Qah Qbu rfl rfl (Qa4.cs_ones _ _ _ _ (Own.oneB b3) (Own.oneB b4) (Own.oneB bi)) tP rfl rfl) ⟨fun _ => tk0, trivial⟩ ?_
         rintro _ tQ ⟨pC, c0⟩
         refine kM c0 ?_
         have tR := (iR.md c0)
         refine dn 0 rfl rfl tR<|Qa9 ?_
         have K_413 : Kz [] c tQ := ((((((Kz.gr (Kz.refl _ _) n).gr tO).ka aS (tk1 ((.inr tk0) : 1 = 0 ∨ c.heap.size ≤ f))).gr iP).gr iQ).md c0)
         have tS := (b3.md c0 (Qca am))
         have tT := (b4.md c0 (Qca an))
         have tU := (bi.md c0 (Qca J))
         exact ⟨rfl, ⟨tM.2, tM.1, eP, g5, g6, g7, g8, g9, ha, eQ, eR, eS⟩, sbq, hm, tS, ⟨(Qbn (A := (fun x => c.heap.size ≤ x)) am)⟩, tT, ⟨(Qbn (A := (fun x => c.heap.size ≤ x)) an)⟩, tU, ⟨(Qbn (A := (fun x => c.heap.size ≤ x)) J)⟩, pC, (by omega), ⟨(tk1 my.o)⟩, ⟨(tk1 mz.o)⟩, ⟨(tk1 mA.o)⟩, ⟨(Qbn (A := (fun x => x ≠ eP)) am)⟩, ⟨(Qbn (A := (fun x => x ≠ eP)) an)⟩, ⟨(Qbn (A := (fun x => x ≠ eP)) J)⟩, K_413⟩
       refine Qam<|qz [] rfl (Qaa (cs := Qa4.cs (Qa4.mk 0#8 0 (Qa8.mk [] 0#64 [] k0 k0) 0#8 0#64 [] k0) (.slice none 0 0) (.slice none 0 0) (.slice none 0 0)) Qis rfl) ⟨fun _ => tk0, trivial⟩ ?_
       rintro _ Dl ⟨da, rfl, yO, lj, iS⟩
       have z7 := lj.lt
       refine kG iS ?_
       have tV := ((aR.gr bg).gr iS)
       refine qz [(1, f)] rfl (Qot Tryz.underlying50 Tryz.underlying5 rfl tV) ⟨fun _ => (tk1 ((.inr tk0) : 1 = 0 ∨ d.heap.size ≤ f)), trivial⟩ ?_
       rintro Aa Dm ⟨pD, b5⟩
       have Dn := b5.size
       refine ⟨Kz.ofKa b5, ?_⟩
       obtain ⟨tW, tX, hm⟩ := bnd hm
       refine qz [] rfl (eC Qqp rfl (Qc7 tX pD)) ⟨fun _ => tk0, trivial⟩ ?_
       rintro _ Do ⟨hb, hc, hd, he, hf, hg, eT, eU, eV, rfl, b6, ao, b7, ap, bj, K, mB, mC, mD, iU⟩
       refine kG iU ?_
       have iV := ((((((Kp.refl ([]) d).gr q).gr bg).gr iS).ka b5 (tk1 ((.inr tk0) : 1 = 0 ∨ d.heap.size ≤ f))).gr iU)
       refine dn 0 rfl rfl iV<|dn 0 rfl rfl iV<|dn 0 rfl rfl iV ?_
       have tY := ((lj.ka b5 (tk1 (Qan (b := da) gW))).gr iU)
       refine qz [(1, da)] rfl (Qah Qbu rfl rfl (Qa4.cs_ones _ _ _ _ (Own.oneB b6) (Own.oneB b7) (Own.oneB bj)) tY rfl rfl) ⟨fun _ => tk0, trivial⟩ ?_
       rintro _ tZ ⟨pE, db⟩
       refine kM db ?_
       have t0 := (iV.md db)
       refine dn 0 rfl rfl t0<|Qa9 ?_
       have K_430 : Kz [] c tZ := (((((((Kz.gr (Kz.refl _ _) n).gr q).gr bg).gr iS).ka b5 (tk1 ((.inr tk0) : 1 = 0 ∨ c.heap.size ≤ f))).gr iU).md db)
       have t1 := (b6.md db (Qca ao))
       have t2 := (b7.md db (Qca ap))
       have t3 := (bj.md db (Qca K))
       exact ⟨rfl, ⟨tW.2, tW.1, da, hb, hc, hd, he, hf, hg, eT, eU, eV⟩, sbq, hm, t1, ⟨(Qbn (A := (fun x => c.heap.size ≤ x)) ao)⟩, t2, ⟨(Qbn (A := (fun x => c.heap.size ≤ x)) ap)⟩, t3, ⟨(Qbn (A := (fun x => c.heap.size ≤ x)) K)⟩, pE, (by omega), ⟨(tk1 mB.o)⟩, ⟨(tk1 mC.o)⟩, ⟨(tk1 mD.o)⟩, ⟨(Qbn (A := (fun x => x ≠ da)) ao)⟩, ⟨(Qbn (A := (fun x => x ≠ da)) ap)⟩, ⟨(Qbn (A := (fun x => x ≠ da)) K)⟩, K_430⟩
     · refine Qbf<|qz [(1, f)] rfl (Qot Tryz.underlying50 Tryz.underlying5 rfl aR) ⟨fun _ => (tk1 ((.inr tk0) : 1 = 0 ∨ d.heap.size ≤ f)), trivial⟩ ?_
       rintro Ab Dp ⟨hh, L⟩
       have Dq := L.size
       refine ⟨Kz.ofKa L, ?_⟩
       refine Qbx ?_ ?_
       · refine Qbf ?_
         obtain ⟨ER, t4, hm⟩ := bnd hm
         refine qz [] rfl (eC Qjm rfl (Qbe t4)) ⟨fun _ => tk0, trivial⟩ ?_
         rintro _ Ds ⟨rfl, bk⟩
         have Dt := bk.size
         refine kG bk<|Qbx ?_ ?_
         · refine Qam ?_
           have t5 := (hh.gr bk)
           obtain ⟨t6, t7, hm⟩ := bnd hm
           refine qz [] rfl (eC Qqp rfl (Qc7 t7 t5)) ⟨fun _ => tk0, trivial⟩ ?_
           rintro _ Du ⟨hi, hj, hk, hl, hn, ho, eW, eX, eY, rfl, b8, hp, b9, hq, bl, eZ, mE, mF, mG, iW⟩
           have Dv := iW.size
           have ll := b8.lth
           have lm := b9.lth
           have ln := bl.lth
           refine kG iW ?_
           have iX := (((((Kp.refl ([]) d).gr q).ka L (tk1 ((.inr tk0) : 1 = 0 ∨ d.heap.size ≤ f))).gr bk).gr iW)
           refine dn 0 rfl rfl iX<|dn 0 rfl rfl iX<|dn 0 rfl rfl iX<|qz [] rfl (Qaa (cs := Qa4.cs (Qa4.mk 0#8 0 (Qa8.mk [] 0#64 [] k0 k0) 0#8 0#64 [] k0) (.slice none 0 0) (.slice none 0 0) (.slice none 0 0)) Qis rfl) ⟨fun _ => tk0, trivial⟩ ?_
           rintro _ Dw ⟨e0, rfl, yP, pF, dc⟩
           refine kG dc ?_
           have og := (b8.gr dc)
           have oh := (b9.gr dc)
           have oi := (bl.gr dc)
           refine qz [(1, e0)] rfl (Qah Qbu rfl rfl (Qa4.cs_ones _ _ _ _ (Own.oneB og) (Own.oneB oh) (Own.oneB oi)) pF rfl rfl) ⟨fun _ => tk0, trivial⟩ ?_
           rintro _ t8 ⟨pG, dd⟩
           refine kM dd ?_
           have t9 := ((iX.gr dc).md dd)
           refine dn 0 rfl rfl t9<|Qa9 ?_
           have K_450 : Kz [] c t8 := (((((((Kz.gr (Kz.refl _ _) n).gr q).ka L (tk1 ((.inr tk0) : 1 = 0 ∨ c.heap.size ≤ f))).gr bk).gr iW).gr dc).md dd)
           have ua := (og.md dd (Qan ll))
           have ub := (oh.md dd (Qan lm))
           have uc := (oi.md dd (Qan ln))
           exact ⟨rfl, ⟨t6.2, t6.1, e0, hi, hj, hk, hl, hn, ho, eW, eX, eY⟩, sbq, hm, ua, ⟨(Qbn (A := (fun x => c.heap.size ≤ x)) hp)⟩, ub, ⟨(Qbn (A := (fun x => c.heap.size ≤ x)) hq)⟩, uc, ⟨(Qbn (A := (fun x => c.heap.size ≤ x)) eZ)⟩, pG, (by omega), ⟨(tk1 mE.o)⟩, ⟨(tk1 mF.o)⟩, ⟨(tk1 mG.o)⟩, ⟨(Qki (A := (fun x => x ≠ e0)) ll)⟩, ⟨(Qki (A := (fun x => x ≠ e0)) lm)⟩, ⟨(Qki (A := (fun x => x ≠ e0)) ln)⟩, K_450⟩
         refine Qam<|qz [] rfl (Qaa (cs := Qa4.cs (Qa4.mk 0#8 0 (Qa8.mk [] 0#64 [] k0 k0) 0#8 0#64 [] k0) (.slice none 0 0) (.slice none 0 0) (.slice none 0 0)) Qis rfl) ⟨fun _ => tk0, trivial⟩ ?_
         rintro _ Dx ⟨e1, rfl, yQ, lo, iY⟩
         have Ac := lo.lt
         refine kG iY ?_
         have ud := ((hh.gr bk).gr iY)
         obtain ⟨ue, uf, hm⟩ := bnd hm
         refine qz [] rfl (eC Qqp rfl (Qc7 uf ud)) ⟨fun _ => tk0, trivial⟩ ?_
         rintro _ Dy ⟨hr, ht, hu, hw, hx, hy, e2, e3, e4, rfl, ca, aq, cb, ar, bm, M, mH, mI, mJ, iZ⟩
         refine kG iZ ?_
         have i0 := ((((((Kp.refl ([]) d).gr q).ka L (tk1 ((.inr tk0) : 1 = 0 ∨ d.heap.size ≤ f))).gr bk).gr iY).gr iZ)
         refine dn 0 rfl rfl i0<|dn 0 rfl rfl i0<|dn 0 rfl rfl i0 ?_
         have ug := (lo.gr iZ)
         refine qz [(1, e1)] rfl (Qah Qbu rfl rfl (Qa4.cs_ones _ _ _ _ (Own.oneB ca) (Own.oneB cb) (Own.oneB bm)) ug rfl rfl) ⟨fun _ => tk0, trivial⟩ ?_
         rintro _ uh ⟨pH, de⟩
         refine kM de ?_
         have ui := (i0.md de)
         refine dn 0 rfl rfl ui<|Qa9 ?_
         have K_465 : Kz [] c uh := (((((((Kz.gr (Kz.refl _ _) n).gr q).ka L (tk1 ((.inr tk0) : 1 = 0 ∨ c.heap.size ≤ f))).gr bk).gr iY).gr iZ).md de)
         have uj := (ca.md de (Qca aq))
         have uk := (cb.md de (Qca ar))
         have ul := (bm.md de (Qca M))
         exact ⟨rfl, ⟨ue.2, ue.1, e1, hr, ht, hu, hw, hx, hy, e2, e3, e4⟩, sbq, hm, uj, ⟨(Qbn (A := (fun x => c.heap.size ≤ x)) aq)⟩, uk, ⟨(Qbn (A := (fun x => c.heap.size ≤ x)) ar)⟩, ul, ⟨(Qbn (A := (fun x => c.heap.size ≤ x)) M)⟩, pH, (by omega), ⟨(tk1 mH.o)⟩, ⟨(tk1 mI.o)⟩, ⟨(tk1 mJ.o)⟩, ⟨(Qbn (A := (fun x => x ≠ e1)) aq)⟩, ⟨(Qbn (A := (fun x => x ≠ e1)) ar)⟩, ⟨(Qbn (A := (fun x => x ≠ e1)) M)⟩, K_465⟩
       refine Qam<|qz [] rfl (Qaa (cs := Qa4.cs (Qa4.mk 0#8 0 (Qa8.mk [] 0#64 [] k0 k0) 0#8 0#64 [] k0) (.slice none 0 0) (.slice none 0 0) (.slice none 0 0)) Qis rfl) ⟨fun _ => tk0, trivial⟩ ?_
       rintro _ Dz ⟨e5, rfl, yR, lq, i1⟩
       have Ad := lq.lt
       refine kG i1 ?_
       obtain ⟨ES, um, hm⟩ := bnd hm
       refine qz [] rfl (eC Qjm rfl (Qbe um)) ⟨fun _ => tk0, trivial⟩ ?_
       rintro _ DA ⟨rfl, df⟩
       have DB := df.size
       refine kG df ?_
       have uo := ((hh.gr i1).gr df)
       obtain ⟨uq, ur, hm⟩ := bnd hm
       refine qz [] rfl (eC Qqp rfl (Qc7 ur uo)) ⟨fun _ => tk0, trivial⟩ ?_
       rintro _ DC ⟨hz, hA, hB, hC, hD, hE, e6, e7, e8, rfl, cc, au, cd, av, bn, N, mK, mL, mM, i2⟩
       refine kG i2 ?_
       have i3 := ((((((Kp.refl ([]) d).gr q).ka L (tk1 ((.inr tk0) : 1 = 0 ∨ d.heap.size ≤ f))).gr i1).gr df).gr i2)
       refine dn 0 rfl rfl i3<|dn 0 rfl rfl i3<|dn 0 rfl rfl i3 ?_
       have us := ((lq.gr df).gr i2)
       refine qz [(1, e5)] rfl (Qah Qbu rfl rfl (Qa4.cs_ones _ _ _ _ (Own.oneB cc) (Own.oneB cd) (Own.oneB bn)) us rfl rfl) ⟨fun _ => tk0, trivial⟩ ?_
       rintro _ ut ⟨pJ, dg⟩
       refine kM dg ?_
       have uu := (i3.md dg)
       refine dn 0 rfl rfl uu<|Qa9 ?_
       have K_481 : Kz [] c ut := (((((((Kz.gr (Kz.refl _ _) n).gr q).ka L (tk1 ((.inr tk0) : 1 = 0 ∨ c.heap.size ≤ f))).gr i1).gr df).gr i2).md dg)
       have uv := (cc.md dg (Qca au))
       have uw := (cd.md dg (Qca av))
       have ux := (bn.md dg (Qca N))
       exact ⟨rfl, ⟨uq.2, uq.1, e5, hz, hA, hB, hC, hD, hE, e6, e7, e8⟩, sbq, hm, uv, ⟨(Qbn (A := (fun x => c.heap.size ≤ x)) au)⟩, uw, ⟨(Qbn (A := (fun x => c.heap.size ≤ x)) av)⟩, ux, ⟨(Qbn (A := (fun x => c.heap.size ≤ x)) N)⟩, pJ, (by omega), ⟨(tk1 mK.o)⟩, ⟨(tk1 mL.o)⟩, ⟨(tk1 mM.o)⟩, ⟨(Qbn (A := (fun x => x ≠ e5)) au)⟩, ⟨(Qbn (A := (fun x => x ≠ e5)) av)⟩, ⟨(Qbn (A := (fun x => x ≠ e5)) N)⟩, K_481⟩
     refine Qbf<|qz [] rfl (Qaa (cs := Qa4.cs (Qa4.mk 0#8 0 (Qa8.mk [] 0#64 [] k0 k0) 0#8 0#64 [] k0) (.slice none 0 0) (.slice none 0 0) (.slice none 0 0)) Qis rfl) ⟨fun _ => tk0, trivial⟩ ?_
     rintro _ DD ⟨y, rfl, yS, hF, di⟩
     have Ae := hF.lt
     refine kG di<|Qbx ?_ ?_
     · refine Qam ?_
       obtain ⟨ET, uy, hm⟩ := bnd hm
       refine qz [] rfl (eC Qjm rfl (Qbe uy)) ⟨fun _ => tk0, trivial⟩ ?_
       rintro _ DE ⟨rfl, dj⟩
       have DF := dj.size
       refine kG dj ?_
       have uz := ((aR.gr di).gr dj)
       refine qz [(1, f)] rfl (Qot Tryz.underlying50 Tryz.underlying5 rfl uz) ⟨fun _ => (tk1 ((.inr tk0) : 1 = 0 ∨ d.heap.size ≤ f)), trivial⟩ ?_
       rintro Af DG ⟨pL, ce⟩
       have DH := ce.size
       refine ⟨Kz.ofKa ce, ?_⟩
       obtain ⟨uA, uB, hm⟩ := bnd hm
       refine qz [] rfl (eC Qqp rfl (Qc7 uB pL)) ⟨fun _ => tk0, trivial⟩ ?_
       rintro _ DI ⟨hG, hH, hI, hJ, hK, hL, e9, fa, fb, rfl, cf, aw, cg, ax, bo, O, mN, mO, mP, i4⟩
       refine kG i4 ?_
       have i5 := ((((((Kp.refl ([]) d).gr q).gr di).gr dj).ka ce (tk1 ((.inr tk0) : 1 = 0 ∨ d.heap.size ≤ f))).gr i4)
       refine dn 0 rfl rfl i5<|dn 0 rfl rfl i5<|dn 0 rfl rfl i5 ?_
       have uC := (((hF.gr dj).ka ce (tk1 (Qan (b := y) gW))).gr i4)
       refine qz [(1, y)] rfl (Qah Qbu rfl rfl (Qa4.cs_ones _ _ _ _ (Own.oneB cf) (Own.oneB cg) (Own.oneB bo)) uC rfl rfl) ⟨fun _ => tk0, trivial⟩ ?_
       rintro _ uD ⟨pM, dk⟩
       refine kM dk ?_
       have uE := (i5.md dk)
       refine dn 0 rfl rfl uE<|Qa9 ?_
       have K_499 : Kz [] c uD := (((((((Kz.gr (Kz.refl _ _) n).gr q).gr di).gr dj).ka ce (tk1 ((.inr tk0) : 1 = 0 ∨ c.heap.size ≤ f))).gr i4).md dk)
       have uF := (cf.md dk (Qca aw))
       have uG := (cg.md dk (Qca ax))
       have uH := (bo.md dk (Qca O))
       exact ⟨rfl, ⟨uA.2, uA.1, y, hG, hH, hI, hJ, hK, hL, e9, fa, fb⟩, sbq, hm, uF, ⟨(Qbn (A := (fun x => c.heap.size ≤ x)) aw)⟩, uG, ⟨(Qbn (A := (fun x => c.heap.size ≤ x)) ax)⟩, uH, ⟨(Qbn (A := (fun x => c.heap.size ≤ x)) O)⟩, pM, (by omega), ⟨(tk1 mN.o)⟩, ⟨(tk1 mO.o)⟩, ⟨(tk1 mP.o)⟩, ⟨(Qbn (A := (fun x => x ≠ y)) aw)⟩, ⟨(Qbn (A := (fun x => x ≠ y)) ax)⟩, ⟨(Qbn (A := (fun x => x ≠ y)) O)⟩, K_499⟩
     refine Qam ?_
     have uI := (aR.gr di)
     refine qz [(1, f)] rfl (Qot Tryz.underlying50 Tryz.underlying5 rfl uI) ⟨fun _ => (tk1 ((.inr tk0) : 1 = 0 ∨ d.heap.size ≤ f)), trivial⟩ ?_
     rintro Ag DJ ⟨pO, ch⟩
     have DK := ch.size
     refine ⟨Kz.ofKa ch, ?_⟩
     obtain ⟨EU, uJ, hm⟩ := bnd hm
     refine qz [] rfl (eC Qjm rfl (Qbe uJ)) ⟨fun _ => tk0, trivial⟩ ?_
     rintro _ DL ⟨rfl, dl⟩
     have DM := dl.size
     refine kG dl ?_
     have uK := (pO.gr dl)
     obtain ⟨uL, uM, hm⟩ := bnd hm
     refine qz [] rfl (eC Qqp rfl (Qc7 uM uK)) ⟨fun _ => tk0, trivial⟩ ?_
     rintro _ DN ⟨hM, hN, hO, hP, hQ, hR, fc, fd, fe, rfl, ci, ay, cj, az, bp, P, mQ, mR, mS, i6⟩
     refine kG i6 ?_
     have uN := Gr.trans q di
     have i7 := (((((Kp.refl ([]) d).gr uN).ka ch (tk1 ((.inr tk0) : 1 = 0 ∨ d.heap.size ≤ f))).gr dl).gr i6)
     refine dn 0 rfl rfl i7<|dn 0 rfl rfl i7<|dn 0 rfl rfl i7 ?_
     have uO := (((hF.ka ch (tk1 (Qan (b := y) gW))).gr dl).gr i6)
     refine qz [(1, y)] rfl (Qah Qbu rfl rfl (Qa4.cs_ones _ _ _ _ (Own.oneB ci) (Own.oneB cj) (Own.oneB bp)) uO rfl rfl) ⟨fun _ => tk0, trivial⟩ ?_
     rintro _ uP ⟨pQ, dp⟩
     refine kM dp ?_
     have uQ := (i7.md dp)
     refine dn 0 rfl rfl uQ<|Qa9 ?_
     have K_516 : Kz [] c uP := ((((((Kz.gr (Kz.refl _ _) n).gr uN).ka ch (tk1 ((.inr tk0) : 1 = 0 ∨ c.heap.size ≤ f))).gr dl).gr i6).md dp)
     have uR := (ci.md dp (Qca ay))
     have uS := (cj.md dp (Qca az))
     have uT := (bp.md dp (Qca P))
     exact ⟨rfl, ⟨uL.2, uL.1, y, hM, hN, hO, hP, hQ, hR, fc, fd, fe⟩, sbq, hm, uR, ⟨(Qbn (A := (fun x => c.heap.size ≤ x)) ay)⟩, uS, ⟨(Qbn (A := (fun x => c.heap.size ≤ x)) az)⟩, uT, ⟨(Qbn (A := (fun x => c.heap.size ≤ x)) P)⟩, pQ, (by omega), ⟨(tk1 mQ.o)⟩, ⟨(tk1 mR.o)⟩, ⟨(tk1 mS.o)⟩, ⟨(Qbn (A := (fun x => x ≠ y)) ay)⟩, ⟨(Qbn (A := (fun x => x ≠ y)) az)⟩, ⟨(Qbn (A := (fun x => x ≠ y)) P)⟩, K_516⟩
   refine Qbf<|qz [] rfl (Qaa (cs := Qa4.cs (Qa4.mk 0#8 0 (Qa8.mk [] 0#64 [] k0 k0) 0#8 0#64 [] k0) (.slice none 0 0) (.slice none 0 0) (.slice none 0 0)) Qis rfl) ⟨fun _ => tk0, trivial⟩ ?_
   rintro _ DO ⟨k, rfl, yT, dN, dq⟩
   have Ah := dN.lt
   refine kG dq<|Qbx ?_ ?_
   · refine Qam ?_
     obtain ⟨DP, pR, hm⟩ := bnd hm
     refine qz [] rfl (eC Qjm rfl (Qbe pR)) ⟨fun _ => tk0, trivial⟩ ?_
     rintro _ DQ ⟨rfl, ff⟩
     have DR := ff.size
     refine kG ff<|qz [] rfl (Qcx [97#8, 98#8, 99#8] bvc Qr2 rfl rfl (Qh6 rfl) rfl rfl rfl) ⟨fun _ => tk0, trivial⟩ ?_
     rintro Ai DS ⟨ck, yU, pS, fg⟩
     have DT := fg.size
     refine kG fg<|qz [(1, ck)] rfl (Qot Tryz.underlying50 Tryz.underlying5 rfl pS) ⟨fun _ => (tk1 ((.inr tk0) : 1 = 0 ∨ d.heap.size ≤ ck)), trivial⟩ ?_
     rintro Aj DU ⟨pT, cl⟩
     have DV := cl.size
     refine ⟨Kz.ofKa cl, ?_⟩
     obtain ⟨oj, pU, hm⟩ := bnd hm
     refine qz [] rfl (eC Qqp rfl (Qc7 pU pT)) ⟨fun _ => tk0, trivial⟩ ?_
     rintro _ DW ⟨hT, hU, hV, hW, hX, hY, fh, fi, fj, rfl, cm, aA, cn, aB, bq, Q, mT, mU, mV, i8⟩
     refine kG i8 ?_
     have i9 := ((((((Kp.refl ([]) d).gr dq).gr ff).gr fg).ka cl (tk1 ((.inr tk0) : 1 = 0 ∨ d.heap.size ≤ ck))).gr i8)
     refine dn 0 rfl rfl i9<|dn 0 rfl rfl i9<|dn 0 rfl rfl i9 ?_
     have uU := ((((dN.gr ff).gr fg).ka cl (tk1 ((.inr tk0) : 1 = 0 ∨ ck ≠ k))).gr i8)
     refine qz [(1, k)] rfl (Qah Qbu rfl rfl (Qa4.cs_ones _ _ _ _ (Own.oneB cm) (Own.oneB cn) (Own.oneB bq)) uU rfl rfl) ⟨fun _ => tk0, trivial⟩ ?_
     rintro _ uV ⟨pW, dr⟩
     refine kM dr ?_
     have uW := (i9.md dr)
     refine dn 0 rfl rfl uW<|Qa9 ?_
     have K_535 : Kz [] c uV := (((((((Kz.gr (Kz.refl _ _) n).gr dq).gr ff).gr fg).ka cl (tk1 ((.inr tk0) : 1 = 0 ∨ c.heap.size ≤ ck))).gr i8).md dr)
     have uX := (cm.md dr (Qca aA))
     have uY := (cn.md dr (Qca aB))
     have uZ := (bq.md dr (Qca Q))
     exact ⟨rfl, ⟨oj.2, oj.1, k, hT, hU, hV, hW, hX, hY, fh, fi, fj⟩, sbq, hm, uX, ⟨(Qbn (A := (fun x => c.heap.size ≤ x)) aA)⟩, uY, ⟨(Qbn (A := (fun x => c.heap.size ≤ x)) aB)⟩, uZ, ⟨(Qbn (A := (fun x => c.heap.size ≤ x)) Q)⟩, pW, (by omega), ⟨(tk1 mT.o)⟩, ⟨(tk1 mU.o)⟩, ⟨(tk1 mV.o)⟩, ⟨(Qbn (A := (fun x => x ≠ k)) aA)⟩, ⟨(Qbn (A := (fun x => x ≠ k)) aB)⟩, ⟨(Qbn (A := (fun x => x ≠ k)) Q)⟩, K_535⟩
   refine Qbf<|qz [] rfl (Qcx [97#8, 98#8, 99#8] bvc Qr2 rfl rfl (Qh6 rfl) rfl rfl rfl) ⟨fun _ => tk0, trivial⟩ ?_
   rintro Ak DX ⟨t, yV, lr, co⟩
   have DY := co.size
   refine kG co<|Qbx ?_ ?_
   · refine Qam ?_
     obtain ⟨DZ, pX, hm⟩ := bnd hm
     refine qz [] rfl (eC Qjm rfl (Qbe pX)) ⟨fun _ => tk0, trivial⟩ ?_
     rintro _ D0 ⟨rfl, ds⟩
     have D1 := ds.size
     refine kG ds ?_
     have u0 := (lr.gr ds)
     refine qz [(1, t)] rfl (Qot Tryz.underlying50 Tryz.underlying5 rfl u0) ⟨fun _ => (tk1 ((.inr tk0) : 1 = 0 ∨ d.heap.size ≤ t)), trivial⟩ ?_
     rintro Al D2 ⟨pY, cp⟩
     have D3 := cp.size
     refine ⟨Kz.ofKa cp, ?_⟩
     obtain ⟨ol, pZ, hm⟩ := bnd hm
     refine qz [] rfl (eC Qqp rfl (Qc7 pZ pY)) ⟨fun _ => tk0, trivial⟩ ?_
     rintro _ D4 ⟨hZ, h0, h1, h2, h3, h4, fk, fl, fm, rfl, cq, aC, cr, aD, br, R, mW, mX, mY, ja⟩
     refine kG ja ?_
     have jb := ((((((Kp.refl ([]) d).gr dq).gr co).gr ds).ka cp (tk1 ((.inr tk0) : 1 = 0 ∨ d.heap.size ≤ t))).gr ja)
     refine dn 0 rfl rfl jb<|dn 0 rfl rfl jb<|dn 0 rfl rfl jb ?_
     have u1 := ((((dN.gr co).gr ds).ka cp (tk1 ((.inr tk0) : 1 = 0 ∨ t ≠ k))).gr ja)
     refine qz [(1, k)] rfl (Qah Qbu rfl rfl (Qa4.cs_ones _ _ _ _ (Own.oneB cq) (Own.oneB cr) (Own.oneB br)) u1 rfl rfl) ⟨fun _ => tk0, trivial⟩ ?_
     rintro _ u2 ⟨p0, dt⟩
     refine kM dt ?_
     have u3 := (jb.md dt)
     refine dn 0 rfl rfl u3<|Qa9 ?_
     have K_553 : Kz [] c u2 := (((((((Kz.gr (Kz.refl _ _) n).gr dq).gr co).gr ds).ka cp (tk1 ((.inr tk0) : 1 = 0 ∨ c.heap.size ≤ t))).gr ja).md dt)
     have u4 := (cq.md dt (Qca aC))
     have u5 := (cr.md dt (Qca aD))
     have u6 := (br.md dt (Qca R))
     exact ⟨rfl, ⟨ol.2, ol.1, k, hZ, h0, h1, h2, h3, h4, fk, fl, fm⟩, sbq, hm, u4, ⟨(Qbn (A := (fun x => c.heap.size ≤ x)) aC)⟩, u5, ⟨(Qbn (A := (fun x => c.heap.size ≤ x)) aD)⟩, u6, ⟨(Qbn (A := (fun x => c.heap.size ≤ x)) R)⟩, p0, (by omega), ⟨(tk1 mW.o)⟩, ⟨(tk1 mX.o)⟩, ⟨(tk1 mY.o)⟩, ⟨(Qbn (A := (fun x => x ≠ k)) aC)⟩, ⟨(Qbn (A := (fun x => x ≠ k)) aD)⟩, ⟨(Qbn (A := (fun x => x ≠ k)) R)⟩, K_553⟩
   refine Qam<|qz [(1, t)] rfl (Qot Tryz.underlying50 Tryz.underlying5 rfl lr) ⟨fun _ => (tk1 ((.inr tk0) : 1 = 0 ∨ d.heap.size ≤ t)), trivial⟩ ?_
   rintro Am D5 ⟨p1, ct⟩
   have D6 := ct.size
   refine ⟨Kz.ofKa ct, ?_⟩
   obtain ⟨D7, p2, hm⟩ := bnd hm
   refine qz [] rfl (eC Qjm rfl (Qbe p2)) ⟨fun _ => tk0, trivial⟩ ?_
   rintro _ D8 ⟨rfl, du⟩
   have D9 := du.size
   refine kG du ?_
   have u7 := (p1.gr du)
   obtain ⟨om, p3, hm⟩ := bnd hm
   refine qz [] rfl (eC Qqp rfl (Qc7 p3 u7)) ⟨fun _ => tk0, trivial⟩ ?_
   rintro _ Ea ⟨h5, h6, h7, h8, h9, ia, fn, fo, fp, rfl, cu, aE, cv, aF, bs, S, mZ, m0, m1, jc⟩
   refine kG jc ?_
   have u8 := Gr.trans dq co
   have jd := (((((Kp.refl ([]) d).gr u8).ka ct (tk1 ((.inr tk0) : 1 = 0 ∨ d.heap.size ≤ t))).gr du).gr jc)
   refine dn 0 rfl rfl jd<|dn 0 rfl rfl jd<|dn 0 rfl rfl jd ?_
   have u9 := ((((dN.gr co).ka ct (tk1 ((.inr tk0) : 1 = 0 ∨ t ≠ k))).gr du).gr jc)
   refine qz [(1, k)] rfl (Qah Qbu rfl rfl (Qa4.cs_ones _ _ _ _ (Own.oneB cu) (Own.oneB cv) (Own.oneB bs)) u9 rfl rfl) ⟨fun _ => tk0, trivial⟩ ?_
   rintro _ va ⟨p4, dv⟩
   refine kM dv ?_
   have vb := (jd.md dv)
   refine dn 0 rfl rfl vb<|Qa9 ?_
   have K_569 : Kz [] c va := ((((((Kz.gr (Kz.refl _ _) n).gr u8).ka ct (tk1 ((.inr tk0) : 1 = 0 ∨ c.heap.size ≤ t))).gr du).gr jc).md dv)
   have vc := (cu.md dv (Qca aE))
   have vd := (cv.md dv (Qca aF))
   have ve := (bs.md dv (Qca S))
   exact ⟨rfl, ⟨om.2, om.1, k, h5, h6, h7, h8, h9, ia, fn, fo, fp⟩, sbq, hm, vc, ⟨(Qbn (A := (fun x => c.heap.size ≤ x)) aE)⟩, vd, ⟨(Qbn (A := (fun x => c.heap.size ≤ x)) aF)⟩, ve, ⟨(Qbn (A := (fun x => c.heap.size ≤ x)) S)⟩, p4, (by omega), ⟨(tk1 mZ.o)⟩, ⟨(tk1 m0.o)⟩, ⟨(tk1 m1.o)⟩, ⟨(Qbn (A := (fun x => x ≠ k)) aE)⟩, ⟨(Qbn (A := (fun x => x ≠ k)) aF)⟩, ⟨(Qbn (A := (fun x => x ≠ k)) S)⟩, K_569⟩
 clear hm; rintro ⟨gu, bu, bq19, vy21, zy21, gy21, vy22, zy22, gy22, vy23, zy23, gy23⟩ cw ⟨hm, aM, yW, aN, yX, aO, yY, je, yZ, y0, y1, vf, vg, vh, vi, u⟩
 unfold Qmz at hm
 have An := (zN.kz u)
 refine qj (β := Int × Qae × Nat × Value × Nat × Nat) ([6, 14] ++ rg 101 7) (fun ⟨jo, ib, bq25, vy27, zy27, gy27⟩ => [(6, .int .i64 jo), (14, .pointer (some ⟨bq25, 0, none⟩))]) (fun ⟨jo, ib, bq25, vy27, zy27, gy27⟩ wr => (Qmw dR aP gu bu jo ib = some r) ∧ Own wr zy27 gy27 92 18 vy27 (ib.Secret.Labels.map Qbv.cs) ∧ Hdn (zy27 = 0 ∨ cw.heap.size ≤ gy27) ∧ Bx wr bq25 78 (Qae.cs ib vy27) ∧ cw.heap.size ≤ bq25 ∧ Hdn (zy27 = 0 ∨ gy27 ≠ bq25) ∧ Kz [] cw wr) ?_ ?_
 · refine dw [([])] [] (.fork [(0,10)] (.fork [(1,0)] (.fork [(2,0)] (.leaf [(3,0),(4,10),(5,10),(6,10),(7,0),(8,0),(9,10)]) (.leaf [(7,0),(3,0),(4,10),(5,10),(6,10),(8,0),(9,10)])) (.leaf [(7,0),(2,0),(3,0),(4,10),(5,10),(6,10),(8,0),(9,10)])) (.leaf [(7,0),(1,0),(2,0),(3,0),(4,10),(5,10),(6,10),(8,0),(9,10)])) ?_
   intro m2 ls Eb
   refine Qbf ?_
   have vj := (((ik.kz mg).kz u).gr ls)
   refine dh 0 rfl rfl (fun w hS => Qa6 Qai rfl (Bx.kp vj hS) rfl)<|Qbx ?_ ?_
   · refine Qbf ?_
     obtain ⟨EW, vk, hm⟩ := bnd hm
     refine qz [] rfl (eC Qqo rfl (Qcz vk)) ⟨fun _ => tk0, trivial⟩ ?_
     rintro _ EX ⟨rfl, jp⟩
     have Ec := jp.size
     refine kG jp<|Qbx ?_ ?_
     · refine Qbf ?_
       obtain ⟨EY, vl, hm⟩ := bnd hm
       refine qz [] rfl (eC Qjm rfl (Qbe vl)) ⟨fun _ => tk0, trivial⟩ ?_
       rintro _ EZ ⟨rfl, lu⟩
       have Ed := lu.size
       refine kG lu<|Qbx ?_ ?_
       · refine Qam ?_
         obtain ⟨vm, vn, hm⟩ := bnd hm
         refine qz [] rfl (eC Qw6 rfl (Qhh vn)) ⟨fun _ => tk0, trivial⟩ ?_
         rintro _ E0 ⟨jq, jr, js, rfl, dy, jt, m3⟩
         have Ee := m3.size
         have lv := dy.lth
         refine kG m3 ?_
         have jf := ((((Kp.refl ([]) m2).gr jp).gr lu).gr m3)
         refine dn 0 rfl rfl jf<|dn 0 rfl rfl jf<|dn 0 rfl rfl jf<|qz [] rfl (Qaa (cs := Qae.cs (Qae.mk (Qap.mk 0 [] (Qag.mk 0#64 0#64)) 0 (Qbi.mk (Qbr.mk false 0 k0) (Qbr.mk false 0 k0))) (.slice none 0 0)) Qo1 rfl) ⟨fun _ => tk0, trivial⟩ ?_
         rintro _ E1 ⟨p5, rfl, Ao, vo, m4⟩
         refine kG m4 ?_
         have oo := (dy.gr m4)
         refine qz [(1, p5)] rfl (Qah Qdk rfl rfl (Qae.cs_ones _ _ (Own.oneB oo)) vo rfl rfl) ⟨fun _ => tk0, trivial⟩ ?_
         rintro _ Ap ⟨vp, m5⟩
         refine kM m5 ?_
         have vq := ((jf.gr m4).md m5)
         refine dn 0 rfl rfl vq<|Qa9 ?_
         have K_273 : Kz [] cw Ap := ((((((Kz.gr (Kz.refl _ _) ls).gr jp).gr lu).gr m3).gr m4).md m5)
         have vr := (oo.md m5 (Qan lv))
         exact ⟨rfl, ⟨vm.2, vm.1, p5, jq, jr, js⟩, sbq, hm, vr, ⟨(Qbn (A := (fun x => cw.heap.size ≤ x)) jt)⟩, vp, (by omega), ⟨(Qki (A := (fun x => x ≠ p5)) lv)⟩, K_273⟩
       refine Qam<|qz [] rfl (Qaa (cs := Qae.cs (Qae.mk (Qap.mk 0 [] (Qag.mk 0#64 0#64)) 0 (Qbi.mk (Qbr.mk false 0 k0) (Qbr.mk false 0 k0))) (.slice none 0 0)) Qo1 rfl) ⟨fun _ => tk0, trivial⟩ ?_
       rintro _ E2 ⟨p6, rfl, Aq, op, vs⟩
       have Ar := op.lt
       refine kG vs ?_
       obtain ⟨vt, vu, hm⟩ := bnd hm
       refine qz [] rfl (eC Qw6 rfl (Qhh vu)) ⟨fun _ => tk0, trivial⟩ ?_
       rintro _ E3 ⟨ju, jv, jw, rfl, dz, aT, p7⟩
       refine kG p7 ?_
       have vv := Gr.trans (Gr.trans (Gr.trans jp lu) vs) p7
       have jg := ((Kp.refl ([]) m2).gr vv)
       refine dn 0 rfl rfl jg<|dn 0 rfl rfl jg<|dn 0 rfl rfl jg ?_
       have vw := (op.gr p7)
       refine qz [(1, p6)] rfl (Qah Qdk rfl rfl (Qae.cs_ones _ _ (Own.oneB dz)) vw rfl rfl) ⟨fun _ => tk0, trivial⟩ ?_
       rintro _ As ⟨vx, m6⟩
       refine kM m6 ?_
       have vy := (jg.md m6)
       refine dn 0 rfl rfl vy<|Qa9 ?_
       have K_283 : Kz [] cw As := (((Kz.gr (Kz.refl _ _) ls).gr vv).md m6)
       have vz := (dz.md m6 (Qca aT))
       exact ⟨rfl, ⟨vt.2, vt.1, p6, ju, jv, jw⟩, sbq, hm, vz, ⟨(Qbn (A := (fun x => cw.heap.size ≤ x)) aT)⟩, vx, (by omega), ⟨(Qbn (A := (fun x => x ≠ p6)) aT)⟩, K_283⟩
     refine Qam<|qz [] rfl (Qaa (cs := Qae.cs (Qae.mk (Qap.mk 0 [] (Qag.mk 0#64 0#64)) 0 (Qbi.mk (Qbr.mk false 0 k0) (Qbr.mk false 0 k0))) (.slice none 0 0)) Qo1 rfl) ⟨fun _ => tk0, trivial⟩ ?_
     rintro _ E4 ⟨p8, rfl, At, oq, vA⟩
     have Au := oq.lt
     refine kG vA ?_
     obtain ⟨E5, vB, hm⟩ := bnd hm
     refine qz [] rfl (eC Qjm rfl (Qbe vB)) ⟨fun _ => tk0, trivial⟩ ?_
     rintro _ E6 ⟨rfl, m7⟩
     have Ef := m7.size
     refine kG m7 ?_
     obtain ⟨vC, vD, hm⟩ := bnd hm
     refine qz [] rfl (eC Qw6 rfl (Qhh vD)) ⟨fun _ => tk0, trivial⟩ ?_
     rintro _ E7 ⟨jx, jy, jz, rfl, dA, aU, p9⟩
     refine kG p9 ?_
     have vE := Gr.trans (Gr.trans (Gr.trans jp vA) m7) p9
     have jh := ((Kp.refl ([]) m2).gr vE)
     refine dn 0 rfl rfl jh<|dn 0 rfl rfl jh<|dn 0 rfl rfl jh ?_
     have vF := ((oq.gr m7).gr p9)
     refine qz [(1, p8)] rfl (Qah Qdk rfl rfl (Qae.cs_ones _ _ (Own.oneB dA)) vF rfl rfl) ⟨fun _ => tk0, trivial⟩ ?_
     rintro _ Av ⟨vG, m8⟩
     refine kM m8 ?_
     have vH := (jh.md m8)
     refine dn 0 rfl rfl vH<|Qa9 ?_
     have K_294 : Kz [] cw Av := (((Kz.gr (Kz.refl _ _) ls).gr vE).md m8)
     have vI := (dA.md m8 (Qca aU))
     exact ⟨rfl, ⟨vC.2, vC.1, p8, jx, jy, jz⟩, sbq, hm, vI, ⟨(Qbn (A := (fun x => cw.heap.size ≤ x)) aU)⟩, vG, (by omega), ⟨(Qbn (A := (fun x => x ≠ p8)) aU)⟩, K_294⟩
   refine Qam<|qz [] rfl (Qaa (cs := Qae.cs (Qae.mk (Qap.mk 0 [] (Qag.mk 0#64 0#64)) 0 (Qbi.mk (Qbr.mk false 0 k0) (Qbr.mk false 0 k0))) (.slice none 0 0)) Qo1 rfl) ⟨fun _ => tk0, trivial⟩ ?_
   rintro _ E8 ⟨qa, rfl, Aw, os, vJ⟩
   have Ax := os.lt
   refine kG vJ ?_
   obtain ⟨E9, vK, hm⟩ := bnd hm
   refine qz [] rfl (eC Qqo rfl (Qcz vK)) ⟨fun _ => tk0, trivial⟩ ?_
   rintro _ Fa ⟨rfl, m9⟩
   have Eg := m9.size
   refine kG m9 ?_
   obtain ⟨Fb, vL, hm⟩ := bnd hm
   refine qz [] rfl (eC Qjm rfl (Qbe vL)) ⟨fun _ => tk0, trivial⟩ ?_
   rintro _ Fc ⟨rfl, na⟩
   have Eh := na.size
   refine kG na ?_
   obtain ⟨vM, vN, hm⟩ := bnd hm
   refine qz [] rfl (eC Qw6 rfl (Qhh vN)) ⟨fun _ => tk0, trivial⟩ ?_
   rintro _ Ei ⟨ie, ig, ih, rfl, cx, aG, lw⟩
   refine kG lw ?_
   have vO := Gr.trans (Gr.trans (Gr.trans vJ m9) na) lw
   have ji := ((Kp.refl ([]) m2).gr vO)
   refine dn 0 rfl rfl ji<|dn 0 rfl rfl ji<|dn 0 rfl rfl ji ?_
   have Ay := Gr.trans (Gr.trans m9 na) lw
   have vP := (os.gr Ay)
   refine qz [(1, qa)] rfl (Qah Qdk rfl rfl (Qae.cs_ones _ _ (Own.oneB cx)) vP rfl rfl) ⟨fun _ => tk0, trivial⟩ ?_
   rintro _ vQ ⟨qc, jj⟩
   refine kM jj ?_
   have vR := (ji.md jj)
   refine dn 0 rfl rfl vR<|Qa9 ?_
   have K_306 : Kz [] cw vQ := (((Kz.gr (Kz.refl _ _) ls).gr vO).md jj)
   have vS := (cx.md jj (Qca aG))
   exact ⟨rfl, ⟨vM.2, vM.1, qa, ie, ig, ih⟩, sbq, hm, vS, ⟨(Qbn (A := (fun x => cw.heap.size ≤ x)) aG)⟩, qc, (by omega), ⟨(Qbn (A := (fun x => x ≠ qa)) aG)⟩, K_306⟩
 clear hm; rintro ⟨jo, ib, bq25, vy27, zy27, gy27⟩ cy ⟨hm, bw, y2, nb, y3, y4, j⟩
 unfold Qmw at hm
 have Az := (An.kz j)
 refine qj (β := Int × Qae × Nat × Value × Nat × Nat) ([8, 15] ++ rg 108 7) (fun ⟨jA, fq, bq29, vy31, zy31, gy31⟩ => [(8, .int .i64 jA), (15, .pointer (some ⟨bq29, 0, none⟩))]) (fun ⟨jA, fq, bq29, vy31, zy31, gy31⟩ wr => (Qmx dR aP gu bu jo ib jA fq = some r) ∧ Own wr zy31 gy31 92 18 vy31 (fq.Secret.Labels.map Qbv.cs) ∧ Hdn (zy31 = 0 ∨ cy.heap.size ≤ gy31) ∧ Bx wr bq29 78 (Qae.cs fq vy31) ∧ cy.heap.size ≤ bq29 ∧ Hdn (zy31 = 0 ∨ gy31 ≠ bq29) ∧ Kz [] cy wr) ?_ ?_
 · refine dw [([])] [] (.fork [(0,10)] (.fork [(1,0)] (.fork [(2,0)] (.leaf [(3,0),(4,10),(5,10),(6,10),(7,0),(8,0),(9,10)]) (.leaf [(7,0),(3,0),(4,10),(5,10),(6,10),(8,0),(9,10)])) (.leaf [(7,0),(2,0),(3,0),(4,10),(5,10),(6,10),(8,0),(9,10)])) (.leaf [(7,0),(1,0),(2,0),(3,0),(4,10),(5,10),(6,10),(8,0),(9,10)])) ?_
   intro nc lx Ej
   refine Qbf ?_
   have vT := ((((ik.kz mg).kz u).kz j).gr lx)
   refine dh 0 rfl rfl (fun w hS => Qa6 Qai rfl (Bx.kp vT hS) rfl)<|Qbx ?_ ?_
   · refine Qbf ?_
     obtain ⟨Fd, vU, hm⟩ := bnd hm
     refine qz [] rfl (eC Qqo rfl (Qcz vU)) ⟨fun _ => tk0, trivial⟩ ?_
     rintro _ Fe ⟨rfl, jB⟩
     have Ek := jB.size
     refine kG jB<|Qbx ?_ ?_
     · refine Qbf ?_
       obtain ⟨Ff, vV, hm⟩ := bnd hm
       refine qz [] rfl (eC Qjm rfl (Qbe vV)) ⟨fun _ => tk0, trivial⟩ ?_
       rintro _ Fg ⟨rfl, ly⟩
       have El := ly.size
       refine kG ly<|Qbx ?_ ?_
       · refine Qam ?_
         obtain ⟨vW, vX, hm⟩ := bnd hm
         refine qz [] rfl (eC Qw6 rfl (Qhh vX)) ⟨fun _ => tk0, trivial⟩ ?_
         rintro _ Fh ⟨jC, jD, jE, rfl, dB, jF, nf⟩
         have Em := nf.size
         have lz := dB.lth
         refine kG nf ?_
         have jk := ((((Kp.refl ([]) nc).gr jB).gr ly).gr nf)
         refine dn 0 rfl rfl jk<|dn 0 rfl rfl jk<|dn 0 rfl rfl jk<|qz [] rfl (Qaa (cs := Qae.cs (Qae.mk (Qap.mk 0 [] (Qag.mk 0#64 0#64)) 0 (Qbi.mk (Qbr.mk false 0 k0) (Qbr.mk false 0 k0))) (.slice none 0 0)) Qo1 rfl) ⟨fun _ => tk0, trivial⟩ ?_
         rintro _ Fi ⟨qf, rfl, AA, vY, ng⟩
         refine kG ng ?_
         have ot := (dB.gr ng)
         refine qz [(1, qf)] rfl (Qah Qdk rfl rfl (Qae.cs_ones _ _ (Own.oneB ot)) vY rfl rfl) ⟨fun _ => tk0, trivial⟩ ?_
         rintro _ AB ⟨vZ, nh⟩
         refine kM nh ?_
         have v0 := ((jk.gr ng).md nh)
         refine dn 0 rfl rfl v0<|Qa9 ?_
         have K_227 : Kz [] cy AB := ((((((Kz.gr (Kz.refl _ _) lx).gr jB).gr ly).gr nf).gr ng).md nh)
         have v1 := (ot.md nh (Qan lz))
         exact ⟨rfl, ⟨vW.2, vW.1, qf, jC, jD, jE⟩, sbq, hm, v1, ⟨(Qbn (A := (fun x => cy.heap.size ≤ x)) jF)⟩, vZ, (by omega), ⟨(Qki (A := (fun x => x ≠ qf)) lz)⟩, K_227⟩
       refine Qam<|qz [] rfl (Qaa (cs := Qae.cs (Qae.mk (Qap.mk 0 [] (Qag.mk 0#64 0#64)) 0 (Qbi.mk (Qbr.mk false 0 k0) (Qbr.mk false 0 k0))) (.slice none 0 0)) Qo1 rfl) ⟨fun _ => tk0, trivial⟩ ?_
       rintro _ Fj ⟨qi, rfl, AC, ou, v2⟩
       have AD := ou.lt
       refine kG v2 ?_
       obtain ⟨v3, v4, hm⟩ := bnd hm
       refine qz [] rfl (eC Qw6 rfl (Qhh v4)) ⟨fun _ => tk0, trivial⟩ ?_
       rintro _ Fk ⟨jG, jH, jI, rfl, dC, aV, ql⟩
       refine kG ql ?_
       have v5 := Gr.trans (Gr.trans (Gr.trans jB ly) v2) ql
       have jl := ((Kp.refl ([]) nc).gr v5)
       refine dn 0 rfl rfl jl<|dn 0 rfl rfl jl<|dn 0 rfl rfl jl ?_
       have v6 := (ou.gr ql)
       refine qz [(1, qi)] rfl (Qah Qdk rfl rfl (Qae.cs_ones _ _ (Own.oneB dC)) v6 rfl rfl) ⟨fun _ => tk0, trivial⟩ ?_
       rintro _ AE ⟨v7, ni⟩
       refine kM ni ?_
       have v8 := (jl.md ni)
       refine dn 0 rfl rfl v8<|Qa9 ?_
       have K_237 : Kz [] cy AE := (((Kz.gr (Kz.refl _ _) lx).gr v5).md ni)
       have v9 := (dC.md ni (Qca aV))
       exact ⟨rfl, ⟨v3.2, v3.1, qi, jG, jH, jI⟩, sbq, hm, v9, ⟨(Qbn (A := (fun x => cy.heap.size ≤ x)) aV)⟩, v7, (by omega), ⟨(Qbn (A := (fun x => x ≠ qi)) aV)⟩, K_237⟩
     refine Qam<|qz [] rfl (Qaa (cs := Qae.cs (Qae.mk (Qap.mk 0 [] (Qag.mk 0#64 0#64)) 0 (Qbi.mk (Qbr.mk false 0 k0) (Qbr.mk false 0 k0))) (.slice none 0 0)) Qo1 rfl) ⟨fun _ => tk0, trivial⟩ ?_
     rintro _ Fl ⟨qn, rfl, AF, ov, wa⟩
     have AG := ov.lt
     refine kG wa ?_
     obtain ⟨Fm, wb, hm⟩ := bnd hm
     refine qz [] rfl (eC Qjm rfl (Qbe wb)) ⟨fun _ => tk0, trivial⟩ ?_
     rintro _ Fn ⟨rfl, nj⟩
     have Eo := nj.size
     refine kG nj ?_
     obtain ⟨wc, we, hm⟩ := bnd hm
     refine qz [] rfl (eC Qw6 rfl (Qhh we)) ⟨fun _ => tk0, trivial⟩ ?_
     rintro _ Fo ⟨jJ, jK, jL, rfl, dD, aW, qo⟩
     refine kG qo ?_
     have wf := Gr.trans (Gr.trans (Gr.trans jB wa) nj) qo
     have jm := ((Kp.refl ([]) nc).gr wf)
     refine dn 0 rfl rfl jm<|dn 0 rfl rfl jm<|dn 0 rfl rfl jm ?_
     have wg := ((ov.gr nj).gr qo)
     refine qz [(1, qn)] rfl (Qah Qdk rfl rfl (Qae.cs_ones _ _ (Own.oneB dD)) wg rfl rfl) ⟨fun _ => tk0, trivial⟩ ?_
     rintro _ AH ⟨wh, nk⟩
     refine kM nk ?_
     have wi := (jm.md nk)
     refine dn 0 rfl rfl wi<|Qa9 ?_
     have K_248 : Kz [] cy AH := (((Kz.gr (Kz.refl _ _) lx).gr wf).md nk)
     have wj := (dD.md nk (Qca aW))
     exact ⟨rfl, ⟨wc.2, wc.1, qn, jJ, jK, jL⟩, sbq, hm, wj, ⟨(Qbn (A := (fun x => cy.heap.size ≤ x)) aW)⟩, wh, (by omega), ⟨(Qbn (A := (fun x => x ≠ qn)) aW)⟩, K_248⟩
   refine Qam<|qz [] rfl (Qaa (cs := Qae.cs (Qae.mk (Qap.mk 0 [] (Qag.mk 0#64 0#64)) 0 (Qbi.mk (Qbr.mk false 0 k0) (Qbr.mk false 0 k0))) (.slice none 0 0)) Qo1 rfl) ⟨fun _ => tk0, trivial⟩ ?_
   rintro _ Fp ⟨qA, rfl, AI, ow, wk⟩
   have AJ := ow.lt
   refine kG wk ?_
   obtain ⟨Fq, wl, hm⟩ := bnd hm
   refine qz [] rfl (eC Qqo rfl (Qcz wl)) ⟨fun _ => tk0, trivial⟩ ?_
   rintro _ Fr ⟨rfl, nl⟩
   have Ep := nl.size
   refine kG nl ?_
   obtain ⟨Fs, wm, hm⟩ := bnd hm
   refine qz [] rfl (eC Qjm rfl (Qbe wm)) ⟨fun _ => tk0, trivial⟩ ?_
   rintro _ Ft ⟨rfl, nm⟩
   have Eq := nm.size
   refine kG nm ?_
   obtain ⟨wn, wo, hm⟩ := bnd hm
   refine qz [] rfl (eC Qw6 rfl (Qhh wo)) ⟨fun _ => tk0, trivial⟩ ?_
   rintro _ Fu ⟨jM, jN, jO, rfl, dE, aX, qB⟩
   refine kG qB ?_
   have wq := Gr.trans (Gr.trans (Gr.trans wk nl) nm) qB
   have jn := ((Kp.refl ([]) nc).gr wq)
   refine dn 0 rfl rfl jn<|dn 0 rfl rfl jn<|dn 0 rfl rfl jn ?_
   have AK := Gr.trans (Gr.trans nl nm) qB
   have wt := (ow.gr AK)
   refine qz [(1, qA)] rfl (Qah Qdk rfl rfl (Qae.cs_ones _ _ (Own.oneB dE)) wt rfl rfl) ⟨fun _ => tk0, trivial⟩ ?_
   rintro _ AL ⟨wu, nn⟩
   refine kM nn ?_
   have ww := (jn.md nn)
   refine dn 0 rfl rfl ww<|Qa9 ?_
   have K_260 : Kz [] cy AL := (((Kz.gr (Kz.refl _ _) lx).gr wq).md nn)
   have wx := (dE.md nn (Qca aX))
   exact ⟨rfl, ⟨wn.2, wn.1, qA, jM, jN, jO⟩, sbq, hm, wx, ⟨(Qbn (A := (fun x => cy.heap.size ≤ x)) aX)⟩, wu, (by omega), ⟨(Qbn (A := (fun x => x ≠ qA)) aX)⟩, K_260⟩
 clear hm; rintro ⟨jA, fq, bq29, vy31, zy31, gy31⟩ AM ⟨hm, no, y5, np, y6, y7, h⟩
 unfold Qmx at hm
 refine Qa3 ?_
 have wy := (Az.kz h)
 refine qj (β := Bool) (rg 115 14) (fun nq => [(128, .bool nq)]) (fun nq wr => (Qgu aP bu ib fq nq = some r) ∧ Kz [] AM wr) ?_ ?_
 · refine qg 14 rfl<|qm rfl<|qv rfl (Qby (a := dR) (b := 0) rfl rfl)<|qp rfl (Qad rfl) (fun c7 => ?_) (fun c7 => ?_)
   · replace hm := iT c7 hm
     refine qk rfl<|qk rfl<|qm rfl<|qm rfl<|qk rfl<|qk rfl<|qm rfl ?_
     refine qm rfl<|qk rfl<|qk rfl<|qm rfl<|Qa9 ?_
     exact ⟨rfl, true, sbq, hm, kz0⟩
   replace hm := iF c7 hm
   refine qm rfl<|qv rfl (Qby (a := gu) (b := 0) rfl rfl)<|qm rfl<|qp rfl (Qad rfl) (fun c8 => ?_) (fun c8 => ?_)
   · replace hm := iT c8 hm
     refine qk rfl<|qk rfl<|qm rfl<|qm rfl<|qk rfl<|qk rfl<|qm rfl ?_
     refine Qa9 ?_
     exact ⟨rfl, true, sbq, hm, kz0⟩
   replace hm := iF c8 hm
   refine qm rfl<|qv rfl (Qby (a := jo) (b := 0) rfl rfl)<|qm rfl<|qp rfl (Qad rfl) (fun c9 => ?_) (fun c9 => ?_)
   · replace hm := iT c9 hm
     refine qk rfl<|qk rfl<|qm rfl<|Qa9 ?_
     exact ⟨rfl, true, sbq, hm, kz0⟩
   replace hm := iF c9 hm
   refine qm rfl<|qv rfl (Qby (a := jA) (b := 0) rfl rfl)<|qm rfl<|Qa9 ?_
   exact ⟨rfl, (decide (jA ≠ 0)), sbq, hm, kz0⟩
 clear hm; rintro nq cz ⟨hm, g⟩
 unfold Qgu at hm
 refine Qal rfl (fun c2 => ?_) (fun c2 => ?_)
 · replace hm := Qc0 c2 hm
   refine qs 1 rfl<|qm rfl<|qb ?_
   have AN := (wy.kz g)
   cases hm
   refine ⟨_, _, rfl, Qay rfl (Qac rfl), ?_⟩
   exact ⟨rfl, AN⟩
 replace hm := Qc1 c2 hm
 refine qu ?_
 have AO := (wy.kz g)
 refine qj (β := Int × Qae × Nat × Value × Nat × Nat) ([2, 16, 17] ++ rg 129 9) (fun ⟨jP, lA, bq34, vy36, zy36, gy36⟩ => [(2, .int .i64 jP), (16, .pointer (some ⟨bq34, 0, none⟩))]) (fun ⟨jP, lA, bq34, vy36, zy36, gy36⟩ wr => (Qn4 aP bu fq jP lA = some r) ∧ Own wr zy36 gy36 92 18 vy36 (lA.Secret.Labels.map Qbv.cs) ∧ Hdn (zy36 = 0 ∨ cz.heap.size ≤ gy36) ∧ Bx wr bq34 78 (Qae.cs lA vy36) ∧ cz.heap.size ≤ bq34 ∧ Hdn (zy36 = 0 ∨ gy36 ≠ bq34) ∧ Kz [] cz wr) ?_ ?_
 · refine dw [([])] [] (.fork [(2,10),(3,10)] (.fork [(0,0)] (.fork [(1,0)] (.leaf [(4,0),(5,10),(6,10),(7,10),(8,10),(9,0),(10,0),(11,10),(12,10)]) (.leaf [(9,0),(4,0),(5,10),(6,10),(7,10),(8,10),(10,0),(11,10),(12,10)])) (.leaf [(9,0),(1,0),(4,0),(5,10),(6,10),(7,10),(8,10),(10,0),(11,10),(12,10)])) (.leaf [(9,0),(0,0),(1,0),(4,0),(5,10),(6,10),(7,10),(8,10),(10,0),(11,10),(12,10)])) ?_
   intro nr cA Er
   refine Qbf ?_
   have wz := (((nb.kz h).kz g).gr cA)
   refine dh 0 rfl rfl (fun w hS => Qa6 Qdk rfl (Bx.kp wz hS) rfl) ?_
   have wA := (((((iB.kz u).kz j).kz h).kz g).gr cA)
   refine dh 0 rfl rfl (fun w hS => Qa6 Qbu rfl (Bx.kp wA hS) rfl)<|Qbx ?_ ?_
   · refine Qbf ?_
     obtain ⟨Fv, wB, hm⟩ := bnd hm
     refine qz [] rfl (eC Qqo rfl (Qcz wB)) ⟨fun _ => tk0, trivial⟩ ?_
     rintro _ Fx ⟨rfl, dO⟩
     have Es := dO.size
     refine kG dO<|Qbx ?_ ?_
     · refine Qbf ?_
       obtain ⟨Fy, wC, hm⟩ := bnd hm
       refine qz [] rfl (eC Qjm rfl (Qbe wC)) ⟨fun _ => tk0, trivial⟩ ?_
       rintro _ Fz ⟨rfl, ii⟩
       have Et := ii.size
       refine kG ii<|Qbx ?_ ?_
       · refine Qam ?_
         have nt := Gr.trans (Gr.trans cA dO) ii
         have wD := (((bw.kz h).kz g).gr nt)
         have wE := (((((aJ.kz u).kz j).kz h).kz g).gr nt)
         have wF := (((((aK.kz u).kz j).kz h).kz g).gr nt)
         have wG := (((((aL.kz u).kz j).kz h).kz g).gr nt)
         obtain ⟨wH, wI, hm⟩ := bnd hm
         refine qz [] rfl (eC Qu2 rfl (Qel wI (Own.rd wD) (Own.rd wE) (Own.rd wF) (Own.rd wG))) ⟨fun _ => tk0, trivial⟩ ?_
         rintro _ FB ⟨jQ, jR, jS, qW, qX, qY, rfl, dF, jT, qZ, q0, AP, nu⟩
         have Eu := nu.size
         have lB := dF.lth
         refine kG nu ?_
         have fr := ((((Kp.refl ([]) nr).gr dO).gr ii).gr nu)
         refine dn 0 rfl rfl fr<|dn 0 rfl rfl fr<|dn 0 rfl rfl fr<|dn 0 rfl rfl fr<|qz [] rfl (Qaa (cs := Qae.cs (Qae.mk (Qap.mk 0 [] (Qag.mk 0#64 0#64)) 0 (Qbi.mk (Qbr.mk false 0 k0) (Qbr.mk false 0 k0))) (.slice none 0 0)) Qo1 rfl) ⟨fun _ => tk0, trivial⟩ ?_
         rintro _ FC ⟨qC, rfl, AQ, wJ, nv⟩
         refine kG nv ?_
         have ox := (dF.gr nv)
         refine qz [(1, qC)] rfl (Qah Qdk rfl rfl (Qae.cs_ones _ _ (Own.oneB ox)) wJ rfl rfl) ⟨fun _ => tk0, trivial⟩ ?_
         rintro _ AR ⟨wK, nw⟩
         refine kM nw ?_
         have oy := ((fr.gr nv).md nw)
         refine dn 0 rfl rfl oy<|dn 0 rfl rfl oy<|Qa9 ?_
         have K_162 : Kz [] cz AR := ((((((Kz.gr (Kz.refl _ _) cA).gr dO).gr ii).gr nu).gr nv).md nw)
         have wL := (ox.md nw (Qan lB))
         exact ⟨rfl, ⟨wH.2.2, wH.1, qC, jQ, jR, jS⟩, sbq, hm, wL, ⟨(Qbn (A := (fun x => cz.heap.size ≤ x)) jT)⟩, wK, (by omega), ⟨(Qki (A := (fun x => x ≠ qC)) lB)⟩, K_162⟩
       refine Qam<|qz [] rfl (Qaa (cs := Qae.cs (Qae.mk (Qap.mk 0 [] (Qag.mk 0#64 0#64)) 0 (Qbi.mk (Qbr.mk false 0 k0) (Qbr.mk false 0 k0))) (.slice none 0 0)) Qo1 rfl) ⟨fun _ => tk0, trivial⟩ ?_
       rintro _ FD ⟨qD, rfl, AS, oz, qE⟩
       have AT := oz.lt
       refine kG qE ?_
       have nx := Gr.trans (Gr.trans (Gr.trans cA dO) ii) qE
       have wM := (((bw.kz h).kz g).gr nx)
       have wN := (((((aJ.kz u).kz j).kz h).kz g).gr nx)
       have wO := (((((aK.kz u).kz j).kz h).kz g).gr nx)
       have wP := (((((aL.kz u).kz j).kz h).kz g).gr nx)
       obtain ⟨wQ, wR, hm⟩ := bnd hm
       refine qz [] rfl (eC Qu2 rfl (Qel wR (Own.rd wM) (Own.rd wN) (Own.rd wO) (Own.rd wP))) ⟨fun _ => tk0, trivial⟩ ?_
       rintro _ FE ⟨jU, jV, jW, q1, q2, q3, rfl, dG, aY, q4, q5, AU, qF⟩
       refine kG qF ?_
       have wS := Gr.trans (Gr.trans (Gr.trans dO ii) qE) qF
       have fs := ((Kp.refl ([]) nr).gr wS)
       refine dn 0 rfl rfl fs<|dn 0 rfl rfl fs<|dn 0 rfl rfl fs<|dn 0 rfl rfl fs ?_
       have wT := (oz.gr qF)
       refine qz [(1, qD)] rfl (Qah Qdk rfl rfl (Qae.cs_ones _ _ (Own.oneB dG)) wT rfl rfl) ⟨fun _ => tk0, trivial⟩ ?_
       rintro _ AV ⟨wU, ny⟩
       refine kM ny ?_
       have oA := (fs.md ny)
       refine dn 0 rfl rfl oA<|dn 0 rfl rfl oA<|Qa9 ?_
       have K_177 : Kz [] cz AV := (((Kz.gr (Kz.refl _ _) cA).gr wS).md ny)
       have wV := (dG.md ny (Qca aY))
       exact ⟨rfl, ⟨wQ.2.2, wQ.1, qD, jU, jV, jW⟩, sbq, hm, wV, ⟨(Qbn (A := (fun x => cz.heap.size ≤ x)) aY)⟩, wU, (by omega), ⟨(Qbn (A := (fun x => x ≠ qD)) aY)⟩, K_177⟩
     refine Qam<|qz [] rfl (Qaa (cs := Qae.cs (Qae.mk (Qap.mk 0 [] (Qag.mk 0#64 0#64)) 0 (Qbi.mk (Qbr.mk false 0 k0) (Qbr.mk false 0 k0))) (.slice none 0 0)) Qo1 rfl) ⟨fun _ => tk0, trivial⟩ ?_
     rintro _ FF ⟨qG, rfl, AW, oB, qH⟩
     have AX := oB.lt
     refine kG qH ?_
     obtain ⟨FG, wW, hm⟩ := bnd hm
     refine qz [] rfl (eC Qjm rfl (Qbe wW)) ⟨fun _ => tk0, trivial⟩ ?_
     rintro _ FH ⟨rfl, lC⟩
     have Ev := lC.size
     refine kG lC ?_
     have nz := Gr.trans (Gr.trans (Gr.trans cA dO) qH) lC
     have wX := (((bw.kz h).kz g).gr nz)
     have wY := (((((aJ.kz u).kz j).kz h).kz g).gr nz)
     have wZ := (((((aK.kz u).kz j).kz h).kz g).gr nz)
     have w0 := (((((aL.kz u).kz j).kz h).kz g).gr nz)
     obtain ⟨xa, xb, hm⟩ := bnd hm
     refine qz [] rfl (eC Qu2 rfl (Qel xb (Own.rd wX) (Own.rd wY) (Own.rd wZ) (Own.rd w0))) ⟨fun _ => tk0, trivial⟩ ?_
     rintro _ FI ⟨jX, jY, jZ, q6, q7, q8, rfl, dH, aZ, q9, ra, AY, qI⟩
     refine kG qI ?_
     have xc := Gr.trans (Gr.trans (Gr.trans dO qH) lC) qI
     have ft := ((Kp.refl ([]) nr).gr xc)
     refine dn 0 rfl rfl ft<|dn 0 rfl rfl ft<|dn 0 rfl rfl ft<|dn 0 rfl rfl ft ?_
     have xd := ((oB.gr lC).gr qI)
     refine qz [(1, qG)] rfl (Qah Qdk rfl rfl (Qae.cs_ones _ _ (Own.oneB dH)) xd rfl rfl) ⟨fun _ => tk0, trivial⟩ ?_
     rintro _ AZ ⟨xe, nA⟩
     refine kM nA ?_
     have oC := (ft.md nA)
     refine dn 0 rfl rfl oC<|dn 0 rfl rfl oC<|Qa9 ?_
     have K_193 : Kz [] cz AZ := (((Kz.gr (Kz.refl _ _) cA).gr xc).md nA)
     have xf := (dH.md nA (Qca aZ))
     exact ⟨rfl, ⟨xa.2.2, xa.1, qG, jX, jY, jZ⟩, sbq, hm, xf, ⟨(Qbn (A := (fun x => cz.heap.size ≤ x)) aZ)⟩, xe, (by omega), ⟨(Qbn (A := (fun x => x ≠ qG)) aZ)⟩, K_193⟩
   refine Qam<|qz [] rfl (Qaa (cs := Qae.cs (Qae.mk (Qap.mk 0 [] (Qag.mk 0#64 0#64)) 0 (Qbi.mk (Qbr.mk false 0 k0) (Qbr.mk false 0 k0))) (.slice none 0 0)) Qo1 rfl) ⟨fun _ => tk0, trivial⟩ ?_
   rintro _ FJ ⟨qJ, rfl, A0, oD, qK⟩
   have A1 := oD.lt
   refine kG qK ?_
   obtain ⟨FK, xg, hm⟩ := bnd hm
   refine qz [] rfl (eC Qqo rfl (Qcz xg)) ⟨fun _ => tk0, trivial⟩ ?_
   rintro _ FL ⟨rfl, lD⟩
   have Ew := lD.size
   refine kG lD ?_
   obtain ⟨FM, xh, hm⟩ := bnd hm
   refine qz [] rfl (eC Qjm rfl (Qbe xh)) ⟨fun _ => tk0, trivial⟩ ?_
   rintro _ FN ⟨rfl, lE⟩
   have Ex := lE.size
   refine kG lE ?_
   have nB := Gr.trans (Gr.trans (Gr.trans cA qK) lD) lE
   have xi := (((bw.kz h).kz g).gr nB)
   have xj := (((((aJ.kz u).kz j).kz h).kz g).gr nB)
   have xk := (((((aK.kz u).kz j).kz h).kz g).gr nB)
   have xl := (((((aL.kz u).kz j).kz h).kz g).gr nB)
   obtain ⟨xm, xn, hm⟩ := bnd hm
   refine qz [] rfl (eC Qu2 rfl (Qel xn (Own.rd xi) (Own.rd xj) (Own.rd xk) (Own.rd xl))) ⟨fun _ => tk0, trivial⟩ ?_
   rintro _ FO ⟨j0, j1, j2, rb, rc, re, rfl, dI, a0, rf, rh, A2, qL⟩
   refine kG qL ?_
   have xo := Gr.trans (Gr.trans (Gr.trans qK lD) lE) qL
   have fu := ((Kp.refl ([]) nr).gr xo)
   refine dn 0 rfl rfl fu<|dn 0 rfl rfl fu<|dn 0 rfl rfl fu<|dn 0 rfl rfl fu ?_
   have A3 := Gr.trans (Gr.trans lD lE) qL
   have xp := (oD.gr A3)
   refine qz [(1, qJ)] rfl (Qah Qdk rfl rfl (Qae.cs_ones _ _ (Own.oneB dI)) xp rfl rfl) ⟨fun _ => tk0, trivial⟩ ?_
   rintro _ A4 ⟨xq, nC⟩
   refine kM nC ?_
   have oE := (fu.md nC)
   refine dn 0 rfl rfl oE<|dn 0 rfl rfl oE<|Qa9 ?_
   have K_210 : Kz [] cz A4 := (((Kz.gr (Kz.refl _ _) cA).gr xo).md nC)
   have xr := (dI.md nC (Qca a0))
   exact ⟨rfl, ⟨xm.2.2, xm.1, qJ, j0, j1, j2⟩, sbq, hm, xr, ⟨(Qbn (A := (fun x => cz.heap.size ≤ x)) a0)⟩, xq, (by omega), ⟨(Qbn (A := (fun x => x ≠ qJ)) a0)⟩, K_210⟩
 clear hm; rintro ⟨jP, lA, bq34, vy36, zy36, gy36⟩ cB ⟨hm, bx, y8, nD, y9, za, p⟩
 unfold Qn4 at hm
 have lF := (AO.kz p)
 refine qj (β := Int × List (BitVec 8) × Value × Nat × Nat) ([4, 18, 19] ++ rg 138 9) (fun ⟨lG, j3, vy39, zy39, gy39⟩ => [(4, .int .i64 lG), (19, vy39)]) (fun ⟨lG, j3, vy39, zy39, gy39⟩ wr => (Qn5 aP bu fq jP lG j3 = some r) ∧ Own wr zy39 gy39 5 1 vy39 (j3.map bvc) ∧ Hdn (zy39 = 0 ∨ cB.heap.size ≤ gy39) ∧ Kz [] cB wr) ?_ ?_
 · refine dw [([])] [] (.fork [(2,10),(3,10)] (.fork [(0,0)] (.fork [(1,0)] (.leaf [(4,0),(5,10),(6,10),(7,10),(8,10),(9,0),(10,0),(11,10),(12,10)]) (.leaf [(9,0),(4,0),(5,10),(6,10),(7,10),(8,10),(10,0),(11,10),(12,10)])) (.leaf [(9,0),(1,0),(4,0),(5,10),(6,10),(7,10),(8,10),(10,0),(11,10),(12,10)])) (.leaf [(9,0),(0,0),(1,0),(4,0),(5,10),(6,10),(7,10),(8,10),(10,0),(11,10),(12,10)])) ?_
   intro nE cC Ey
   refine Qbf ?_
   have A5 := (nD.gr cC)
   refine dh 0 rfl rfl (fun w hS => Qa6 Qdk rfl (Bx.kp A5 hS) rfl) ?_
   have A6 := (((((je.kz j).kz h).kz g).kz p).gr cC)
   refine dh 0 rfl rfl (fun w hS => Qa6 Qbu rfl (Bx.kp A6 hS) rfl)<|Qbx ?_ ?_
   · refine Qbf ?_
     obtain ⟨FP, xs, hm⟩ := bnd hm
     refine qz [] rfl (eC Qqo rfl (Qcz xs)) ⟨fun _ => tk0, trivial⟩ ?_
     rintro _ FQ ⟨rfl, dP⟩
     have FR := dP.size
     refine kG dP<|Qbx ?_ ?_
     · refine Qbf ?_
       obtain ⟨FSq, xt, hm⟩ := bnd hm
       refine qz [] rfl (eC Qjm rfl (Qbe xt)) ⟨fun _ => tk0, trivial⟩ ?_
       rintro _ FT ⟨rfl, ij⟩
       have FU := ij.size
       refine kG ij<|Qbx ?_ ?_
       · refine Qam ?_
         have nF := Gr.trans (Gr.trans cC dP) ij
         have A7 := (bx.gr nF)
         have A8 := (((((aM.kz j).kz h).kz g).kz p).gr nF)
         have A9 := (((((aN.kz j).kz h).kz g).kz p).gr nF)
         have Ba := (((((aO.kz j).kz h).kz g).kz p).gr nF)
         obtain ⟨xu, xv, hm⟩ := bnd hm
         refine qz [] rfl (eC Qu2 rfl (Qel xv (Own.rd A7) (Own.rd A8) (Own.rd A9) (Own.rd Ba))) ⟨fun _ => tk0, trivial⟩ ?_
         rintro _ FV ⟨ri, rj, rk, j4, j5, j6, rfl, j7, rl, dJ, j8, Bb, nG⟩
         have FW := nG.size
         have xw := dJ.lth
         refine kG nG ?_
         have lH := ((((Kp.refl ([]) nE).gr dP).gr ij).gr nG)
         refine dn 0 rfl rfl lH<|dn 0 rfl rfl lH<|dn 0 rfl rfl lH<|dn 0 rfl rfl lH<|qz [] rfl (Qaa (cs := Qae.cs (Qae.mk (Qap.mk 0 [] (Qag.mk 0#64 0#64)) 0 (Qbi.mk (Qbr.mk false 0 k0) (Qbr.mk false 0 k0))) (.slice none 0 0)) Qo1 rfl) ⟨fun _ => tk0, trivial⟩ ?_
         rintro _ FX ⟨Bc, rfl, Bd, xx, lI⟩
         refine kG lI ?_
         have Be := (j7.gr lI)
         refine qz [(1, Bc)] rfl (Qah Qdk rfl rfl (Qae.cs_ones _ _ (Own.oneB Be)) xx rfl rfl) ⟨fun _ => tk0, trivial⟩ ?_
         rintro _ Bf ⟨Ez, nH⟩
         refine kM nH ?_
         have xy := ((lH.gr lI).md nH)
         refine dn 0 rfl rfl xy<|dn 0 rfl rfl xy<|Qa9 ?_
         have K_95 : Kz [] cB Bf := ((((((Kz.gr (Kz.refl _ _) cC).gr dP).gr ij).gr nG).gr lI).md nH)
         have Bg := ((dJ.gr lI).md nH (Qan xw))
         exact ⟨rfl, ⟨xu.2.2, xu.2.1, j4, j5, j6⟩, sbq, hm, Bg, ⟨(Qbn (A := (fun x => cB.heap.size ≤ x)) j8)⟩, K_95⟩
       refine Qam<|qz [] rfl (Qaa (cs := Qae.cs (Qae.mk (Qap.mk 0 [] (Qag.mk 0#64 0#64)) 0 (Qbi.mk (Qbr.mk false 0 k0) (Qbr.mk false 0 k0))) (.slice none 0 0)) Qo1 rfl) ⟨fun _ => tk0, trivial⟩ ?_
       rintro _ FY ⟨Bh, rfl, Bi, oF, qM⟩
       have EA := oF.lt
       refine kG qM ?_
       have nI := Gr.trans (Gr.trans (Gr.trans cC dP) ij) qM
       have Bj := (bx.gr nI)
       have xz := (((((aM.kz j).kz h).kz g).kz p).gr nI)
       have xA := (((((aN.kz j).kz h).kz g).kz p).gr nI)
       have xB := (((((aO.kz j).kz h).kz g).kz p).gr nI)
       obtain ⟨xC, xD, hm⟩ := bnd hm
       refine qz [] rfl (eC Qu2 rfl (Qel xD (Own.rd Bj) (Own.rd xz) (Own.rd xA) (Own.rd xB))) ⟨fun _ => tk0, trivial⟩ ?_
       rintro _ FZ ⟨rm, rn, ro, j9, kc, kd, rfl, ke, rp, kf, dK, Bk, qN⟩
       refine kG qN ?_
       have xE := Gr.trans (Gr.trans (Gr.trans dP ij) qM) qN
       have fv := ((Kp.refl ([]) nE).gr xE)
       refine dn 0 rfl rfl fv<|dn 0 rfl rfl fv<|dn 0 rfl rfl fv<|dn 0 rfl rfl fv ?_
       have xF := (oF.gr qN)
       refine qz [(1, Bh)] rfl (Qah Qdk rfl rfl (Qae.cs_ones _ _ (Own.oneB ke)) xF rfl rfl) ⟨fun _ => tk0, trivial⟩ ?_
       rintro _ Bl ⟨EB, nJ⟩
       refine kM nJ ?_
       have oG := (fv.md nJ)
       refine dn 0 rfl rfl oG<|dn 0 rfl rfl oG<|Qa9 ?_
       have K_110 : Kz [] cB Bl := (((Kz.gr (Kz.refl _ _) cC).gr xE).md nJ)
       have xG := (kf.md nJ (Qca dK))
       exact ⟨rfl, ⟨xC.2.2, xC.2.1, j9, kc, kd⟩, sbq, hm, xG, ⟨(Qbn (A := (fun x => cB.heap.size ≤ x)) dK)⟩, K_110⟩
     refine Qam<|qz [] rfl (Qaa (cs := Qae.cs (Qae.mk (Qap.mk 0 [] (Qag.mk 0#64 0#64)) 0 (Qbi.mk (Qbr.mk false 0 k0) (Qbr.mk false 0 k0))) (.slice none 0 0)) Qo1 rfl) ⟨fun _ => tk0, trivial⟩ ?_
     rintro _ F0 ⟨Bm, rfl, Bn, oH, qO⟩
     have Bo := oH.lt
     refine kG qO ?_
     obtain ⟨F2, xH, hm⟩ := bnd hm
     refine qz [] rfl (eC Qjm rfl (Qbe xH)) ⟨fun _ => tk0, trivial⟩ ?_
     rintro _ F3 ⟨rfl, lJ⟩
     have EC := lJ.size
     refine kG lJ ?_
     have nK := Gr.trans (Gr.trans (Gr.trans cC dP) qO) lJ
     have xI := (bx.gr nK)
     have xJ := (((((aM.kz j).kz h).kz g).kz p).gr nK)
     have xK := (((((aN.kz j).kz h).kz g).kz p).gr nK)
     have xL := (((((aO.kz j).kz h).kz g).kz p).gr nK)
     obtain ⟨xM, xN, hm⟩ := bnd hm
     refine qz [] rfl (eC Qu2 rfl (Qel xN (Own.rd xI) (Own.rd xJ) (Own.rd xK) (Own.rd xL))) ⟨fun _ => tk0, trivial⟩ ?_
     rintro _ F4 ⟨rq, rr, rs, kg, kh, ki, rfl, kj, rt, kk, dL, Bp, qP⟩
     refine kG qP ?_
     have xO := Gr.trans (Gr.trans (Gr.trans dP qO) lJ) qP
     have fw := ((Kp.refl ([]) nE).gr xO)
     refine dn 0 rfl rfl fw<|dn 0 rfl rfl fw<|dn 0 rfl rfl fw<|dn 0 rfl rfl fw ?_
     have xP := ((oH.gr lJ).gr qP)
     refine qz [(1, Bm)] rfl (Qah Qdk rfl rfl (Qae.cs_ones _ _ (Own.oneB kj)) xP rfl rfl) ⟨fun _ => tk0, trivial⟩ ?_
     rintro _ Bq ⟨ED, nL⟩
     refine kM nL ?_
     have oI := (fw.md nL)
     refine dn 0 rfl rfl oI<|dn 0 rfl rfl oI<|Qa9 ?_
     have K_126 : Kz [] cB Bq := (((Kz.gr (Kz.refl _ _) cC).gr xO).md nL)
     have xQ := (kk.md nL (Qca dL))
     exact ⟨rfl, ⟨xM.2.2, xM.2.1, kg, kh, ki⟩, sbq, hm, xQ, ⟨(Qbn (A := (fun x => cB.heap.size ≤ x)) dL)⟩, K_126⟩
   refine Qam<|qz [] rfl (Qaa (cs := Qae.cs (Qae.mk (Qap.mk 0 [] (Qag.mk 0#64 0#64)) 0 (Qbi.mk (Qbr.mk false 0 k0) (Qbr.mk false 0 k0))) (.slice none 0 0)) Qo1 rfl) ⟨fun _ => tk0, trivial⟩ ?_
   rintro _ F5 ⟨Br, rfl, Bs, oJ, qQ⟩
   have Bt := oJ.lt
   refine kG qQ ?_
   obtain ⟨F6, xR, hm⟩ := bnd hm
   refine qz [] rfl (eC Qqo rfl (Qcz xR)) ⟨fun _ => tk0, trivial⟩ ?_
   rintro _ F7 ⟨rfl, lK⟩
   have EE := lK.size
   refine kG lK ?_
   obtain ⟨F8, xS, hm⟩ := bnd hm
   refine qz [] rfl (eC Qjm rfl (Qbe xS)) ⟨fun _ => tk0, trivial⟩ ?_
   rintro _ F9 ⟨rfl, lL⟩
   have EF := lL.size
   refine kG lL ?_
   have nM := Gr.trans (Gr.trans (Gr.trans cC qQ) lK) lL
   have xT := (bx.gr nM)
   have xU := (((((aM.kz j).kz h).kz g).kz p).gr nM)
   have xV := (((((aN.kz j).kz h).kz g).kz p).gr nM)
   have xW := (((((aO.kz j).kz h).kz g).kz p).gr nM)
   obtain ⟨xX, xY, hm⟩ := bnd hm
   refine qz [] rfl (eC Qu2 rfl (Qel xY (Own.rd xT) (Own.rd xU) (Own.rd xV) (Own.rd xW))) ⟨fun _ => tk0, trivial⟩ ?_
   rintro _ Ga ⟨ru, rv, rx, kl, km, ko, rfl, kq, ry, kr, dM, Bu, qR⟩
   refine kG qR ?_
   have xZ := Gr.trans (Gr.trans (Gr.trans qQ lK) lL) qR
   have fx := ((Kp.refl ([]) nE).gr xZ)
   refine dn 0 rfl rfl fx<|dn 0 rfl rfl fx<|dn 0 rfl rfl fx<|dn 0 rfl rfl fx ?_
   have Bv := Gr.trans (Gr.trans lK lL) qR
   have x0 := (oJ.gr Bv)
   refine qz [(1, Br)] rfl (Qah Qdk rfl rfl (Qae.cs_ones _ _ (Own.oneB kq)) x0 rfl rfl) ⟨fun _ => tk0, trivial⟩ ?_
   rintro _ Bw ⟨EG, nN⟩
   refine kM nN ?_
   have oK := (fx.md nN)
   refine dn 0 rfl rfl oK<|dn 0 rfl rfl oK<|Qa9 ?_
   have K_143 : Kz [] cB Bw := (((Kz.gr (Kz.refl _ _) cC).gr xZ).md nN)
   have ya := (kr.md nN (Qca dM))
   exact ⟨rfl, ⟨xX.2.2, xX.2.1, kl, km, ko⟩, sbq, hm, ya, ⟨(Qbn (A := (fun x => cB.heap.size ≤ x)) dM)⟩, K_143⟩
 clear hm; rintro ⟨lG, j3, vy39, zy39, gy39⟩ Gb ⟨hm, nO, zb, aH⟩
 unfold Qn5 at hm
 refine Qa3<|dw [([])] [] (.leaf [(2,10),(3,10),(0,0),(1,0),(4,0),(5,10),(6,10),(7,10),(8,10),(9,10)]) ?_
 intro Bz qS EH
 refine Qam ?_
 have yb := ((((np.kz g).kz p).kz aH).gr qS)
 refine dh 0 rfl rfl (fun w hS => Qa6 Qdk rfl (Bx.kp yb hS) rfl) ?_
 have BB := (((((((iB.kz u).kz j).kz h).kz g).kz p).kz aH).gr qS)
 refine dh 0 rfl rfl (fun w hS => Qa6 Qbu rfl (Bx.kp BB hS) rfl) ?_
 obtain ⟨Gc, yc, hm⟩ := bnd hm
 refine qz [] rfl (eC Qqo rfl (Qcz yc)) ⟨fun _ => tk0, trivial⟩ ?_
 rintro _ Gd ⟨rfl, qT⟩
 refine kG qT ?_
 obtain ⟨Ge, yd, hm⟩ := bnd hm
 refine qz [] rfl (eC Qjm rfl (Qbe yd)) ⟨fun _ => tk0, trivial⟩ ?_
 rintro _ Gf ⟨rfl, qU⟩
 refine kG qU ?_
 have lM := Gr.trans (Gr.trans qS qT) qU
 have ye := ((((no.kz g).kz p).kz aH).gr lM)
 have BC := (((((((aJ.kz u).kz j).kz h).kz g).kz p).kz aH).gr lM)
 have BD := (((((((aK.kz u).kz j).kz h).kz g).kz p).kz aH).gr lM)
 have BE := (((((((aL.kz u).kz j).kz h).kz g).kz p).kz aH).gr lM)
 obtain ⟨BF, yf, hm⟩ := bnd hm
 refine qz [] rfl (eC Qu2 rfl (Qel yf (Own.rd ye) (Own.rd BC) (Own.rd BD) (Own.rd BE))) ⟨fun _ => tk0, trivial⟩ ?_
 rintro _ Gg ⟨rz, rA, rB, rC, rD, rE, rfl, rF, rG, rH, rI, BG, nP⟩
 refine kG nP ?_
 have yg := Gr.trans (Gr.trans qT qU) nP
 have lN := ((Kp.refl ([]) Bz).gr yg)
 refine dn 0 rfl rfl lN<|dn 0 rfl rfl lN<|dn 0 rfl rfl lN<|dn 0 rfl rfl lN<|dn 0 rfl rfl lN<|Qa1<|Qa3 ?_
 refine dw [([])] [] (.leaf [(2,10),(3,10),(0,0),(1,0),(4,0),(5,10),(6,10),(7,10),(8,10),(9,10)]) ?_
 intro BH qV EI
 refine Qam ?_
 have BI := Gr.trans yg qV
 have BJ := (yb.gr BI)
 refine dh 0 rfl rfl (fun w hS => Qa6 Qdk rfl (Bx.kp BJ hS) rfl) ?_
 have yh := Gr.trans (Gr.trans lM nP) qV
 have BK := ((((((je.kz j).kz h).kz g).kz p).kz aH).gr yh)
 refine dh 0 rfl rfl (fun w hS => Qa6 Qbu rfl (Bx.kp BK hS) rfl) ?_
 obtain ⟨Gh, yi, hm⟩ := bnd hm
 refine qz [] rfl (eC Qqo rfl (Qcz yi)) ⟨fun _ => tk0, trivial⟩ ?_
 rintro _ Gi ⟨rfl, nQ⟩
 refine kG nQ ?_
 obtain ⟨Gj, yj, hm⟩ := bnd hm
 refine qz [] rfl (eC Qjm rfl (Qbe yj)) ⟨fun _ => tk0, trivial⟩ ?_
 rintro _ Gk ⟨rfl, nR⟩
 refine kG nR ?_
 have BL := Gr.trans (Gr.trans (Gr.trans nP qV) nQ) nR
 have BM := (ye.gr BL)
 have kt := Gr.trans (Gr.trans yh nQ) nR
 have BN := ((((((aM.kz j).kz h).kz g).kz p).kz aH).gr kt)
 have BO := ((((((aN.kz j).kz h).kz g).kz p).kz aH).gr kt)
 have BP := ((((((aO.kz j).kz h).kz g).kz p).kz aH).gr kt)
 obtain ⟨BQ, yk, hm⟩ := bnd hm
 refine qz [] rfl (eC Qu2 rfl (Qel yk (Own.rd BM) (Own.rd BN) (Own.rd BO) (Own.rd BP))) ⟨fun _ => tk0, trivial⟩ ?_
 rintro _ Gl ⟨rJ, rK, rL, rM, rN, rO, rfl, rP, rQ, rR, rS, BR, lO⟩
 refine kG lO ?_
 have BT := Gr.trans (Gr.trans nQ nR) lO
 have lP := ((Kp.refl ([]) BH).gr BT)
 refine dn 0 rfl rfl lP<|dn 0 rfl rfl lP<|dn 0 rfl rfl lP<|dn 0 rfl rfl lP<|dn 0 rfl rfl lP<|Qa1<|Qa3 ?_
 refine qg 20 rfl<|qm rfl<|qv rfl (Qdj (a := jP) (b := 0) rfl rfl)<|qpF rfl (Qad rfl) (fun c3 => ?_) (fun c3 => ?_)
 · replace hm := iF c3 hm
   refine qk rfl<|qk rfl<|qm rfl<|qm rfl<|qk rfl<|qk rfl<|qk rfl ?_
   refine qm rfl<|qm rfl<|qk rfl<|qk rfl<|qm rfl<|qm rfl<|qk rfl ?_
   refine qk rfl<|qm rfl<|qm rfl<|Qa1<|Qaf ?_
   have BU := Gr.trans kt lO
   have BV := ((lF.kz aH).trans BU)
   cases hm
   refine ⟨_, _, rfl, Qay rfl (Qac rfl), ?_⟩
   exact ⟨rfl, BV⟩
 replace hm := iT c3 hm
 refine qm rfl<|qv rfl (Qdj (a := lG) (b := 0) rfl rfl)<|qm rfl<|qpF rfl (Qad rfl) (fun c4 => ?_) (fun c4 => ?_)
 · replace hm := iF c4 hm
   refine qk rfl<|qk rfl<|qk rfl<|qm rfl<|qm rfl<|qk rfl<|qk rfl ?_
   refine qm rfl<|qm rfl<|qk rfl<|qk rfl<|qm rfl<|qm rfl<|Qa1 ?_
   refine Qaf ?_
   have BW := Gr.trans kt lO
   have BX := ((lF.kz aH).trans BW)
   cases hm
   refine ⟨_, _, rfl, Qay rfl (Qac rfl), ?_⟩
   exact ⟨rfl, BX⟩
 replace hm := iT c4 hm
 refine qm rfl ?_
 have nS := Gr.trans kt lO
 have BY := (nO.gr nS)
 refine qv rfl (Qwk (l := j3) Tryz.underlying50 Tryz.underlying5 Tryz.underlying9 rfl (Own.rd BY))<|qv rfl (Xcg (l := j3) (m := [97#8, 98#8, 99#8]) rfl rfl)<|qm rfl<|qpF rfl (Qad rfl) (fun c5 => ?_) (fun c5 => ?_)
 · replace hm := iF c5 hm
   refine qk rfl<|qk rfl<|qm rfl<|qm rfl<|qk rfl<|qk rfl<|qm rfl ?_
   refine qm rfl<|Qa1<|Qaf ?_
   have B0 := ((lF.kz aH).trans nS)
   cases hm
   refine ⟨_, _, rfl, Qay rfl (Qac rfl), ?_⟩
   exact ⟨rfl, B0⟩
 replace hm := iT c5 hm
 refine qm rfl<|qv rfl (Qdj (a := BF.2.2) (b := 6) rfl rfl)<|qm rfl<|qp rfl (Qad rfl) (fun c6 => ?_) (fun c6 => ?_)
 · replace hm := iT c6 hm
   refine qm rfl<|qv rfl (Qdj (a := BQ.2.2) (b := 6) rfl rfl)<|qm rfl<|qm rfl<|Qa1<|Qaf ?_
   have B1 := ((lF.kz aH).trans nS)
   cases hm
   refine ⟨_, _, rfl, Qay rfl (Qac rfl), ?_⟩
   exact ⟨rfl, B1⟩
 replace hm := iF c6 hm
 refine qk rfl<|qk rfl<|qm rfl<|qm rfl<|Qa1<|Qaf ?_
 have B2 := ((lF.kz aH).trans nS)
 cases hm
 refine ⟨_, _, rfl, Qay rfl (Qac rfl), ?_⟩
 exact ⟨rfl, B2⟩
end Go.Proofs.YtjdffpglgkefmaaGreat.Mx
