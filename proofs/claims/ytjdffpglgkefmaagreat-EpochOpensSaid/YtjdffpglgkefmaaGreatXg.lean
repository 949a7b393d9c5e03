/- Walks that follow mirrors: Xg. Printed by mx.py. -/
import Derived.Test.YtjdffpglgkefmaaGreatXf
import Derived.Test.YtjdffpglgkefmaaGreatZd
set_option linter.unusedVariables false
set_option linter.unusedSimpArgs false
set_option maxRecDepth 100000
set_option maxHeartbeats 2000000
namespace Go.Proofs.YtjdffpglgkefmaaGreat.Mx
open Go Go.RowKit Go.Sx
theorem Xp5 : EqC Tryz.prog 2 131 [.i .i64, .i .i64] := Qme Tryz.underlying131 (by kernel_rfl) Qjd (show EqF _ 1 _ _ _ from (Qgd (ks1 := [.i .i64]) (ks2 := [.i .i64]) rfl (by simp) (Xh9.up (by decide)) (Qgd (ks1 := [.i .i64]) (ks2 := []) rfl (by simp) (Xh9.up (by decide)) (Qti _))))
theorem Xnp : EqC Tryz.prog 3 133 [.i .i64, .i .i64, .i .u8, .i .u8, .i .u8, .i .u8, .i .u8, .i .u8, .i .u8, .i .u8, .i .u8, .i .u8, .i .u8, .i .u8, .i .u8, .i .u8, .i .u8, .i .u8] := Qme Tryz.underlying133 (by kernel_rfl) Qia (show EqF _ 2 _ _ _ from (Qgd (ks1 := [.i .i64, .i .i64]) (ks2 := [.i .u8, .i .u8, .i .u8, .i .u8, .i .u8, .i .u8, .i .u8, .i .u8, .i .u8, .i .u8, .i .u8, .i .u8, .i .u8, .i .u8, .i .u8, .i .u8]) rfl (by simp) (Xp5.up (by decide)) (Qgd (ks1 := [.i .u8, .i .u8, .i .u8, .i .u8, .i .u8, .i .u8, .i .u8, .i .u8, .i .u8, .i .u8, .i .u8, .i .u8, .i .u8, .i .u8, .i .u8, .i .u8]) (ks2 := []) rfl (by simp) (Xhr.up (by decide)) (Qti _))))
theorem Xnt : EqT Tryz.prog 133 [.i .i64, .i .i64, .i .u8, .i .u8, .i .u8, .i .u8, .i .u8, .i .u8, .i .u8, .i .u8, .i .u8, .i .u8, .i .u8, .i .u8, .i .u8, .i .u8, .i .u8, .i .u8] := ⟨by kernel_rfl, Qia, 3, by decide, Xnp⟩
theorem Xr2 : EqC Tryz.prog 2 31 [.i .u64, .i .u64] := Qme Tryz.underlying31 (by kernel_rfl) Qgo (show EqF _ 1 _ _ _ from (Qgd (ks1 := [.i .u64]) (ks2 := [.i .u64]) rfl (by simp) (Xab.up (by decide)) (Qgd (ks1 := [.i .u64]) (ks2 := []) rfl (by simp) (Xab.up (by decide)) (Qti _))))
theorem Xss : EqT Tryz.prog 31 [.i .u64, .i .u64] := ⟨by kernel_rfl, Qgo, 2, by decide, Xr2⟩
theorem Xfd {p0 r} (hm : Qrf p0 = some r) {w : World} :
    Calls Tryz.prog 43 [.agg (Qfr.cs p0).toArray].toArray w fun e w' => ∃ v, e = .returned v ∧ (v = .bool r ∧ Gr w w') := by
 unfold Qrf at hm
 refine Qa5 84 Tryz.func43 rfl rfl rfl<|qs 2 rfl<|qe rfl (Qaq (cs := Qfr.cs p0) rfl rfl) ?_
 rintro _ w1 ⟨b1, rfl, m, c, G1⟩
 refine qm rfl<|Qa1<|Qa3 ?_
 have X3 := ((Gr.refl w).trans G1)
 refine qj (β := Bool) (rg 3 31) (fun a1 => [(33, .bool a1)]) (fun a1 wr => (Qdx p0 a1 = some r) ∧ Kz [] w1 wr) ?_ ?_
 · refine qg 31 rfl<|qv rfl (Qa0 Qiu rfl)<|qv rfl (Qa2 (v := .int .i64 p0.Word) Qaw rfl c rfl)<|qv rfl (Qcd (a := p0.Word) (b := 1) rfl rfl)<|qp rfl (Qac rfl) (fun c9 => ?_) (fun c9 => ?_)
   · replace hm := iT c9 hm
     refine qk rfl<|qk rfl<|qk rfl<|qm rfl<|qm rfl<|qk rfl<|qk rfl ?_
     refine qk rfl<|qk rfl<|qk rfl<|qm rfl<|qm rfl<|qk rfl<|qk rfl ?_
     refine qk rfl<|qk rfl<|qk rfl<|qk rfl<|qm rfl<|qm rfl<|qk rfl ?_
     refine qk rfl<|qk rfl<|qk rfl<|qk rfl<|qk rfl<|qm rfl<|Qa9 ?_
     exact ⟨rfl, true, sbq, hm, kz0⟩
   replace hm := iF c9 hm
   refine qv rfl (Qa0 Qiu rfl)<|qv rfl (Qa2 (v := .int .i64 p0.Word) Qaw rfl c rfl)<|qv rfl (Qey (a := p0.Word) (b := 1000) rfl rfl)<|qm rfl<|qp rfl (Qac rfl) (fun f => ?_) (fun f => ?_)
   · replace hm := iT f hm
     refine qk rfl<|qk rfl<|qk rfl<|qk rfl<|qk rfl<|qm rfl<|qm rfl ?_
     refine qk rfl<|qk rfl<|qk rfl<|qk rfl<|qk rfl<|qk rfl<|qm rfl ?_
     refine qm rfl<|qk rfl<|qk rfl<|qk rfl<|qk rfl<|qk rfl<|qk rfl ?_
     refine qm rfl<|Qa9 ?_
     exact ⟨rfl, true, sbq, hm, kz0⟩
   replace hm := iF f hm
   refine qv rfl (Qa0 Qje rfl)<|qv rfl (Qa2 (v := .int .i64 p0.Epoch) Qaw rfl c rfl)<|qv rfl (Qa0 Qiu rfl)<|qv rfl (Qa2 (v := .int .i64 p0.Word) Qaw rfl c rfl)<|qv rfl (Qcd (a := p0.Epoch) (b := p0.Word) rfl rfl)<|qm rfl<|qp rfl (Qac rfl) (fun g => ?_) (fun g => ?_)
   · replace hm := iT g hm
     refine qk rfl<|qk rfl<|qk rfl<|qk rfl<|qk rfl<|qk rfl<|qm rfl ?_
     refine qm rfl<|qk rfl<|qk rfl<|qk rfl<|qk rfl<|qk rfl<|qk rfl ?_
     refine qm rfl<|Qa9 ?_
     exact ⟨rfl, true, sbq, hm, kz0⟩
   replace hm := iF g hm
   refine qv rfl (Qa0 Qje rfl)<|qv rfl (Qa2 (v := .int .i64 p0.Epoch) Qaw rfl c rfl)<|qv rfl (Qa0 Qiu rfl)<|qv rfl (Qa2 (v := .int .i64 p0.Word) Qaw rfl c rfl)<|qv rfl (Qjl (k := .i64) (a := 1000) (b := p0.Word) rfl rfl)<|qv rfl (Qey (a := p0.Epoch) (b := w64 (1000 * p0.Word)) rfl rfl)<|qm rfl ?_
   refine qp rfl (Qac rfl) (fun h => ?_) (fun h => ?_)
   · replace hm := iT h hm
     refine qk rfl<|qk rfl<|qk rfl<|qk rfl<|qk rfl<|qk rfl<|qm rfl ?_
     refine Qa9 ?_
     exact ⟨rfl, true, sbq, hm, kz0⟩
   replace hm := iF h hm
   refine qv rfl (Qa0 Qje rfl)<|qv rfl (Qa2 (v := .int .i64 p0.Epoch) Qaw rfl c rfl)<|qv rfl (Qa0 Qiu rfl)<|qv rfl (Qa2 (v := .int .i64 p0.Word) Qaw rfl c rfl) ?_
   obtain ⟨x3, i, hm⟩ := bnd hm
   refine qv rfl (Qjv (a := p0.Epoch) (b := p0.Word) rfl rfl i)<|qv rfl (Qc2 (a := x3) (b := 0) rfl rfl)<|qm rfl<|Qa9 ?_
   exact ⟨rfl, (decide (x3 ≠ 0)), sbq, hm, kz0⟩
 clear hm; rintro a1 w2 ⟨hm, K2⟩
 unfold Qdx at hm
 refine Qam rfl (fun c1 => ?_) (fun c1 => ?_)
 · replace hm := Qc8 c1 hm
   refine qs 1 rfl<|qm rfl<|qb ?_
   have X5 := (X3.kz K2)
   cases hm
   refine ⟨_, _, rfl, Qb1 rfl (Qab rfl), ?_⟩
   exact ⟨rfl, X5⟩
 replace hm := Qc7 c1 hm
 refine qu<|Qa3 ?_
 have X6 := (X3.kz K2)
 refine qj (β := Bool) (rg 34 30) (fun a2 => [(63, .bool a2)]) (fun a2 wr => (Qdf p0 a2 = some r) ∧ Kz [] w2 wr) ?_ ?_
 · refine qg 30 rfl<|qv rfl (Qa0 Qrw rfl) ?_
   have d := (c.kz K2)
   refine qv rfl (Qa2 (v := .int .i64 p0.Early) Qaw rfl d rfl)<|qv rfl (Qcd (a := p0.Early) (b := 0) rfl rfl)<|qp rfl (Qac rfl) (fun c4 => ?_) (fun c4 => ?_)
   · replace hm := iT c4 hm
     refine qk rfl<|qk rfl<|qk rfl<|qm rfl<|qm rfl<|qk rfl<|qk rfl ?_
     refine qk rfl<|qm rfl<|qm rfl<|qk rfl<|qk rfl<|qk rfl<|qk rfl ?_
     refine qk rfl<|qm rfl<|qm rfl<|qk rfl<|qk rfl<|qk rfl<|qm rfl ?_
     refine qm rfl<|qk rfl<|qk rfl<|qk rfl<|qm rfl<|Qa9 ?_
     exact ⟨rfl, true, sbq, hm, kz0⟩
   replace hm := iF c4 hm
   refine qv rfl (Qa0 Qll rfl)<|qv rfl (Qa2 (v := .int .i64 p0.Drift) Qaw rfl d rfl)<|qv rfl (Qcd (a := p0.Drift) (b := 0) rfl rfl)<|qm rfl<|qp rfl (Qac rfl) (fun c5 => ?_) (fun c5 => ?_)
   · replace hm := iT c5 hm
     refine qk rfl<|qk rfl<|qk rfl<|qm rfl<|qm rfl<|qk rfl<|qk rfl ?_
     refine qk rfl<|qk rfl<|qk rfl<|qm rfl<|qm rfl<|qk rfl<|qk rfl ?_
     refine qk rfl<|qm rfl<|qm rfl<|qk rfl<|qk rfl<|qk rfl<|qm rfl ?_
     refine Qa9 ?_
     exact ⟨rfl, true, sbq, hm, kz0⟩
   replace hm := iF c5 hm
   refine qv rfl (Qa0 Qp9 rfl)<|qv rfl (Qa2 (v := .int .i64 p0.Delay) Qaw rfl d rfl)<|qv rfl (Qcd (a := p0.Delay) (b := 0) rfl rfl)<|qm rfl<|qp rfl (Qac rfl) (fun c6 => ?_) (fun c6 => ?_)
   · replace hm := iT c6 hm
     refine qk rfl<|qk rfl<|qk rfl<|qk rfl<|qk rfl<|qm rfl<|qm rfl ?_
     refine qk rfl<|qk rfl<|qk rfl<|qm rfl<|qm rfl<|qk rfl<|qk rfl ?_
     refine qk rfl<|qm rfl<|Qa9 ?_
     exact ⟨rfl, true, sbq, hm, kz0⟩
   replace hm := iF c6 hm
   refine qv rfl (Qa0 Qrw rfl)<|qv rfl (Qa2 (v := .int .i64 p0.Early) Qaw rfl d rfl)<|qv rfl (Qa0 Qje rfl)<|qv rfl (Qa2 (v := .int .i64 p0.Epoch) Qaw rfl d rfl)<|qv rfl (Qey (a := p0.Early) (b := p0.Epoch) rfl rfl)<|qm rfl<|qp rfl (Qac rfl) (fun c7 => ?_) (fun c7 => ?_)
   · replace hm := iT c7 hm
     refine qk rfl<|qk rfl<|qk rfl<|qm rfl<|qm rfl<|qk rfl<|qk rfl ?_
     refine qk rfl<|qm rfl<|Qa9 ?_
     exact ⟨rfl, true, sbq, hm, kz0⟩
   replace hm := iF c7 hm
   refine qv rfl (Qa0 Qll rfl)<|qv rfl (Qa2 (v := .int .i64 p0.Drift) Qaw rfl d rfl)<|qv rfl (Qey (a := p0.Drift) (b := 3000) rfl rfl)<|qm rfl<|qp rfl (Qac rfl) (fun c8 => ?_) (fun c8 => ?_)
   · replace hm := iT c8 hm
     refine qk rfl<|qk rfl<|qk rfl<|qm rfl<|Qa9 ?_
     exact ⟨rfl, true, sbq, hm, kz0⟩
   replace hm := iF c8 hm
   refine qv rfl (Qa0 Qp9 rfl)<|qv rfl (Qa2 (v := .int .i64 p0.Delay) Qaw rfl d rfl)<|qv rfl (Qey (a := p0.Delay) (b := 3000) rfl rfl)<|qm rfl<|Qa9 ?_
   exact ⟨rfl, (decide ((3000 : Int) < p0.Delay)), sbq, hm, kz0⟩
 clear hm; rintro a2 w3 ⟨hm, K3⟩
 unfold Qdf at hm
 refine Qam rfl (fun c2 => ?_) (fun c2 => ?_)
 · replace hm := Qc8 c2 hm
   refine qs 1 rfl<|qm rfl<|qb ?_
   have X8 := (X6.kz K3)
   cases hm
   refine ⟨_, _, rfl, Qb1 rfl (Qab rfl), ?_⟩
   exact ⟨rfl, X8⟩
 replace hm := Qc7 c2 hm
 refine qu<|qs 21 rfl<|qv rfl (Qa0 Qll rfl) ?_
 have B9 := ((c.kz K2).kz K3)
 refine qv rfl (Qa2 (v := .int .i64 p0.Drift) Qaw rfl B9 rfl)<|qv rfl (Qjl (k := .i64) (a := 2) (b := p0.Drift) rfl rfl)<|qv rfl (Qa0 Qp9 rfl)<|qv rfl (Qa2 (v := .int .i64 p0.Delay) Qaw rfl B9 rfl)<|qv rfl (Qce (k := .i64) (a := w64 (2 * p0.Drift)) (b := p0.Delay) rfl rfl)<|qv rfl (Qa0 Qiu rfl)<|qv rfl (Qa2 (v := .int .i64 p0.Word) Qaw rfl B9 rfl) ?_
 refine qv rfl (Qjl (k := .i64) (a := 3) (b := p0.Word) rfl rfl)<|qv rfl (Qcd (a := w64 ((w64 (2 * p0.Drift)) + p0.Delay)) (b := w64 (3 * p0.Word)) rfl rfl)<|qpF rfl (Qac rfl) (fun c3 => ?_) (fun c3 => ?_)
 · replace hm := iF c3 hm
   refine qk rfl<|qk rfl<|qk rfl<|qk rfl<|qk rfl<|qk rfl<|qk rfl ?_
   refine qk rfl<|qm rfl<|qm rfl<|Qa1<|Qag ?_
   have j := (X6.kz K3)
   cases hm
   refine ⟨_, _, rfl, Qb1 rfl (Qab rfl), ?_⟩
   exact ⟨rfl, j⟩
 replace hm := iT c3 hm
 refine qv rfl (Qa0 Qrw rfl)<|qv rfl (Qa2 (v := .int .i64 p0.Early) Qaw rfl B9 rfl)<|qv rfl (Qa0 Qp9 rfl)<|qv rfl (Qa2 (v := .int .i64 p0.Delay) Qaw rfl B9 rfl)<|qv rfl (Qce (k := .i64) (a := p0.Early) (b := p0.Delay) rfl rfl)<|qv rfl (Qa0 Qje rfl)<|qv rfl (Qa2 (v := .int .i64 p0.Epoch) Qaw rfl B9 rfl) ?_
 refine qv rfl (Qo8 (a := w64 (p0.Early + p0.Delay)) (b := p0.Epoch) rfl rfl)<|qm rfl<|qm rfl<|Qa1<|Qag ?_
 have l := (X6.kz K3)
 cases hm
 refine ⟨_, _, rfl, Qb1 rfl (Qab rfl), ?_⟩
 exact ⟨rfl, l⟩
theorem Xcs {p0 p1 vp0_0 zp0_0 gp0_0 op0_0 vp0_2 zp0_2 gp0_2 op0_2 vp1_0 zp1_0 gp1_0 op1_0 vp1_2 zp1_2 gp1_2 op1_2 r} (hm : Qpq p0 p1 = some r) {w : World} (g : Rd w zp0_0 gp0_0 op0_0 18 vp0_0 (p0.Items.map Qcc.cs)) (j : Rd w zp0_2 gp0_2 op0_2 2 vp0_2 (p0.Points.map Qah.cs)) (m : Rd w zp1_0 gp1_0 op1_0 18 vp1_0 (p1.Items.map Qcc.cs)) (n : Rd w zp1_2 gp1_2 op1_2 2 vp1_2 (p1.Points.map Qah.cs)) :
    Calls Tryz.prog 27 [.agg (Qaa.cs p0 vp0_0 vp0_2).toArray, .agg (Qaa.cs p1 vp1_0 vp1_2).toArray].toArray w fun e w' => ∃ v, e = .returned v ∧ (v = .bool r ∧ Gr w w') := by
 unfold Qpq at hm
 refine Qa5 80 Tryz.func27 rfl rfl rfl<|qs 3 rfl<|qe rfl (Qaq (cs := Qaa.cs p0 vp0_0 vp0_2) rfl rfl) ?_
 rintro _ w1 ⟨b1, rfl, ab, t, G1⟩
 refine qe rfl (Qaq (cs := Qaa.cs p1 vp1_0 vp1_2) rfl rfl) ?_
 rintro _ w2 ⟨b2, rfl, ac, f, G2⟩
 refine qm rfl<|Qa1<|Qa3 ?_
 have Y1 := Gr.trans G1 G2
 have X9 := ((Gr.refl w).trans Y1)
 refine qj (β := Bool) (rg 7 37) (fun a1 => [(43, .bool a1)]) (fun a1 wr => (Qdc p0 p1 a1 = some r) ∧ Kz [] w2 wr) ?_ ?_
 · refine qg 37 rfl<|qv rfl (Qa0 Qhu rfl) ?_
   have o := (t.gr G2)
   refine qv rfl (Qa2 (v := vp0_0) Qkf rfl o rfl) ?_
   have J := (g.gr Y1)
   refine qv rfl (Qbi (l := p0.Items) (c := Qcc.cs) Tryz.underlying45 rfl J)<|qv rfl (Qa0 Qhu rfl)<|qv rfl (Qa2 (v := vp1_0) Qkf rfl f rfl) ?_
   have K := (m.gr Y1)
   refine qv rfl (Qbi (l := p1.Items) (c := Qcc.cs) Tryz.underlying45 rfl K)<|qv rfl (Qc2 (a := (p0.Items.length : Int)) (b := (p1.Items.length : Int)) rfl rfl)<|qp rfl (Qac rfl) (fun c6 => ?_) (fun c6 => ?_)
   · replace hm := iT c6 hm
     refine qk rfl<|qk rfl<|qk rfl<|qk rfl<|qk rfl<|qk rfl<|qk rfl ?_
     refine qm rfl<|qm rfl<|qk rfl<|qk rfl<|qk rfl<|qk rfl<|qk rfl ?_
     refine qm rfl<|qm rfl<|qk rfl<|qk rfl<|qk rfl<|qk rfl<|qk rfl ?_
     refine qm rfl<|qm rfl<|qk rfl<|qk rfl<|qk rfl<|qk rfl<|qk rfl ?_
     refine qm rfl<|Qa9 ?_
     exact ⟨rfl, true, sbq, hm, kz0⟩
   replace hm := iF c6 hm
   refine qv rfl (Qa0 Qgi rfl)<|qv rfl (Qa2 (v := vp0_2) Qix rfl o rfl) ?_
   have L := (j.gr Y1)
   refine qv rfl (Qbi (l := p0.Points) (c := Qah.cs) Tryz.underlying46 rfl L)<|qv rfl (Qa0 Qgi rfl)<|qv rfl (Qa2 (v := vp1_2) Qix rfl f rfl) ?_
   have M := (n.gr Y1)
   refine qv rfl (Qbi (l := p1.Points) (c := Qah.cs) Tryz.underlying46 rfl M)<|qv rfl (Qc2 (a := (p0.Points.length : Int)) (b := (p1.Points.length : Int)) rfl rfl)<|qm rfl<|qp rfl (Qac rfl) (fun c7 => ?_) (fun c7 => ?_)
   · replace hm := iT c7 hm
     refine qk rfl<|qk rfl<|qk rfl<|qk rfl<|qk rfl<|qm rfl<|qm rfl ?_
     refine qk rfl<|qk rfl<|qk rfl<|qk rfl<|qk rfl<|qm rfl<|qm rfl ?_
     refine qk rfl<|qk rfl<|qk rfl<|qk rfl<|qk rfl<|qm rfl<|Qa9 ?_
     exact ⟨rfl, true, sbq, hm, kz0⟩
   replace hm := iF c7 hm
   refine qv rfl (Qa0 Qou rfl)<|qv rfl (Qa2 (v := wv p0.Base) Qb5 rfl o rfl)<|qv rfl (Qa0 Qou rfl)<|qv rfl (Qa2 (v := wv p1.Base) Qb5 rfl f rfl)<|qv rfl (Qz1 (c := p0.Base) (d := p1.Base) rfl rfl)<|qm rfl<|qp rfl (Qac rfl) (fun c8 => ?_) (fun c8 => ?_)
   · replace hm := iT c8 hm
     refine qk rfl<|qk rfl<|qk rfl<|qk rfl<|qk rfl<|qm rfl<|qm rfl ?_
     refine qk rfl<|qk rfl<|qk rfl<|qk rfl<|qk rfl<|qm rfl<|Qa9 ?_
     exact ⟨rfl, true, sbq, hm, kz0⟩
   replace hm := iF c8 hm
   refine qv rfl (Qa0 Qry rfl)<|qv rfl (Qb6 (vs := kb p0.Box) Qak rfl o rfl rfl)<|qv rfl (Qa0 Qry rfl)<|qv rfl (Qb6 (vs := kb p1.Box) Qak rfl f rfl rfl)<|qv rfl (Qmu (cf := kb) (a := p0.Box) (b := p1.Box) Qqd rfl rfl rfl rfl (fun h => Qng h))<|qm rfl<|qp rfl (Qac rfl) (fun c9 => ?_) (fun c9 => ?_)
   · replace hm := iT c9 hm
     refine qk rfl<|qk rfl<|qk rfl<|qk rfl<|qk rfl<|qm rfl<|Qa9 ?_
     exact ⟨rfl, true, sbq, hm, kz0⟩
   replace hm := iF c9 hm
   refine qv rfl (Qa0 Qtf rfl)<|qv rfl (Qb6 (vs := kb p0.Check) Qak rfl o rfl rfl)<|qv rfl (Qa0 Qtf rfl)<|qv rfl (Qb6 (vs := kb p1.Check) Qak rfl f rfl rfl)<|qv rfl (Qmu (cf := kb) (a := p0.Check) (b := p1.Check) Qqd rfl rfl rfl rfl (fun h => Qng h))<|qm rfl<|Qa9 ?_
   exact ⟨rfl, (decide (p0.Check ≠ p1.Check)), sbq, hm, kz0⟩
 clear hm; rintro a1 w3 ⟨hm, K3⟩
 unfold Qdc at hm
 refine Qam rfl (fun c1 => ?_) (fun c1 => ?_)
 · replace hm := Qc8 c1 hm
   refine qs 1 rfl<|qm rfl<|qb ?_
   have N := (X9.kz K3)
   cases hm
   refine ⟨_, _, rfl, Qb1 rfl (Qab rfl), ?_⟩
   exact ⟨rfl, N⟩
 replace hm := Qc7 c1 hm
 refine qu<|Qa3<|qs 1 rfl<|qm rfl<|Qa1 ?_
 refine Qan ?_
 have u := (X9.kz K3)
 have O := ((g.gr Y1).kz K3)
 have P := ((j.gr Y1).kz K3)
 have Q := ((m.gr Y1).kz K3)
 have R := ((n.gr Y1).kz K3)
 refine Qbj (α := Nat × Int) ([4, 5] ++ rg 44 18) (fun ⟨n2, a3⟩ => [(4, .bool false), (5, .int .i64 a3)]) (fun ⟨n2, a3⟩ wr => (Qc3 (Qh2 p0 p1) n2 a3 = some r) ∧ Kz [] w3 wr) (fun ⟨n2, a3⟩ => n2) ⟨Qcw, 0⟩ ?_ ?_ ?_
 · exact sbq
 · exact ⟨hm, Kz.refl _ _⟩
 clear hm; rintro ⟨n2, a3⟩ w4 ⟨hm, K4⟩
 have hb := Qbv hm; clear hm; obtain ⟨n2, rfl, hm⟩ := hb
 generalize p : Qc3 (Qh2 p0 p1) n2 = ad at hm
 unfold Qh2 at hm
 try dsimp only at hm
 refine Qa3<|qs 5 rfl<|qm rfl<|qv rfl (Qa0 Qhu rfl) ?_
 have q := (((t.gr G2).kz K3).kz K4)
 refine qv rfl (Qa2 (v := vp0_0) Qkf rfl q rfl) ?_
 have x := (O.kz K4)
 refine qv rfl (Qbi (l := p0.Items) (c := Qcc.cs) Tryz.underlying45 rfl x)<|qv rfl (Qcd (a := a3) (b := (p0.Items.length : Int)) rfl rfl)<|Qa1<|Qam rfl (fun c2 => ?_) (fun c2 => ?_)
 · replace hm := iT c2 hm
   refine qu<|Qa3<|Qan<|Qa3<|dw [([])] [] (.leaf [(0,10),(1,10),(2,10),(3,10),(4,10),(5,10),(6,10),(7,10),(8,10),(9,10),(10,10)]) ?_
   intro w5 G5 af
   refine Qal<|dh 0 rfl rfl (fun w hS => Qa0 Qhu rfl) ?_
   have S := (q.gr G5)
   refine dh 0 rfl rfl (fun w hS => Qa2 (v := vp0_0) Qkf rfl (Bx.kp S hS) rfl)<|dm 0 rfl rfl ?_
   obtain ⟨y4, y, hm⟩ := bnd hm
   have z := (x.gr G5)
   refine dh 0 rfl rfl (fun w hS => Qf7 (i := a3) Tryz.underlying45 (Qia).siz rfl (Rd.kp z hS) rfl y)<|dh 0 rfl rfl (fun w hS => Qhs Qia rfl (Rd.kp z hS) y (by first | rfl | omega))<|dh 0 rfl rfl (fun w hS => Qa0 Qhu rfl) ?_
   have T := (((f.kz K3).kz K4).gr G5)
   refine dh 0 rfl rfl (fun w hS => Qa2 (v := vp1_0) Qkf rfl (Bx.kp T hS) rfl)<|dm 0 rfl rfl ?_
   obtain ⟨y5, A, hm⟩ := bnd hm
   have B := ((Q.kz K4).gr G5)
   refine dh 0 rfl rfl (fun w hS => Qf7 (i := a3) Tryz.underlying45 (Qia).siz rfl (Rd.kp B hS) rfl A)<|dh 0 rfl rfl (fun w hS => Qhs Qia rfl (Rd.kp B hS) A (by first | rfl | omega))<|dh 0 rfl rfl (fun w hS => Qmu (cf := Qcc.cs) (a := y4) (b := y5) Xnt rfl rfl rfl rfl (fun h => Qcc.cs_inj h))<|Qa1<|Qam rfl (fun c3 => ?_) (fun c3 => ?_)
   · replace hm := iT c3 hm
     refine qs 1 rfl<|qm rfl<|Qa1<|Qag<|Qbo<|Qb2 ?_
     refine Qb2<|Qbo<|Qb2 ?_
     have U := ((u.kz K4).trans G5)
     cases hm
     refine ⟨_, _, rfl, Qb1 rfl (Qab rfl), ?_⟩
     exact ⟨rfl, U⟩
   replace hm := iF c3 hm
   refine Qc4<|Qay<|Qaz<|qg 3 rfl<|qm rfl<|qv rfl (Qce (k := .i64) (a := a3) (b := 1) rfl rfl)<|qm rfl ?_
   refine Qa9 ?_
   have K_25 : Kz [] w3 w5 := (K4.gr G5)
   subst p
   exact ⟨rfl, ⟨n2, w64 (a3 + 1)⟩, sbq, ⟨hm, K_25⟩, Nat.lt_succ_self _⟩
 replace hm := iF c2 hm
 refine Qbp<|Qb4<|Qb4<|Qbq<|Qaz<|Qa3<|Qa3 ?_
 refine qg 1 rfl<|qm rfl<|Qa1<|Qan ?_
 have C := (u.kz K4)
 have V := (P.kz K4)
 have W := (R.kz K4)
 refine Qbj (α := Nat × Int) ([4, 6] ++ rg 62 18) (fun ⟨n3, a7⟩ => [(4, .bool false), (6, .int .i64 a7)]) (fun ⟨n3, a7⟩ wr => (Qc3 (Qha p0 p1) n3 a7 = some r) ∧ Kz [] w4 wr) (fun ⟨n3, a7⟩ => n3) ⟨Qcw, 0⟩ ?_ ?_ ?_
 · exact sbq
 · exact ⟨hm, Kz.refl _ _⟩
 clear hm; rintro ⟨n3, a7⟩ w6 ⟨hm, K6⟩
 have hb := Qbv hm; clear hm; obtain ⟨n3, rfl, hm⟩ := hb
 generalize s : Qc3 (Qha p0 p1) n3 = ae at hm
 unfold Qha at hm
 try dsimp only at hm
 refine Qa3<|qs 5 rfl<|qm rfl<|qv rfl (Qa0 Qgi rfl) ?_
 have D := (q.kz K6)
 refine qv rfl (Qa2 (v := vp0_2) Qix rfl D rfl) ?_
 have E := (V.kz K6)
 refine qv rfl (Qbi (l := p0.Points) (c := Qah.cs) Tryz.underlying46 rfl E)<|qv rfl (Qcd (a := a7) (b := (p0.Points.length : Int)) rfl rfl)<|Qa1<|cnF rfl (fun c4 => ?_) (fun c4 => ?_)
 · replace hm := iF c4 hm
   refine Qbp<|Qb4<|Qb4<|Qbq<|Qaz<|qs 1 rfl ?_
   refine qm rfl<|Qa1<|Qag ?_
   have X := (C.kz K6)
   cases hm
   refine ⟨_, _, rfl, Qb1 rfl (Qab rfl), ?_⟩
   exact ⟨rfl, X⟩
 replace hm := iT c4 hm
 refine qu<|Qa3<|Qan<|Qa3<|dw [([])] [] (.leaf [(0,10),(1,10),(2,10),(3,10),(4,10),(5,10),(6,10),(7,10),(8,10),(9,10),(10,10)]) ?_
 intro w7 G7 ag
 refine Qal<|dh 0 rfl rfl (fun w hS => Qa0 Qgi rfl) ?_
 have Y := (D.gr G7)
 refine dh 0 rfl rfl (fun w hS => Qa2 (v := vp0_2) Qix rfl (Bx.kp Y hS) rfl)<|dm 0 rfl rfl ?_
 obtain ⟨y8, F, hm⟩ := bnd hm
 have G := (E.gr G7)
 refine dh 0 rfl rfl (fun w hS => Qf7 (i := a7) Tryz.underlying46 (Qgo).siz rfl (Rd.kp G hS) rfl F)<|dh 0 rfl rfl (fun w hS => Qhs Qgo rfl (Rd.kp G hS) F (by first | rfl | omega))<|dh 0 rfl rfl (fun w hS => Qa0 Qgi rfl) ?_
 have Z := ((((f.kz K3).kz K4).kz K6).gr G7)
 refine dh 0 rfl rfl (fun w hS => Qa2 (v := vp1_2) Qix rfl (Bx.kp Z hS) rfl)<|dm 0 rfl rfl ?_
 obtain ⟨y9, H, hm⟩ := bnd hm
 have I := ((W.kz K6).gr G7)
 refine dh 0 rfl rfl (fun w hS => Qf7 (i := a7) Tryz.underlying46 (Qgo).siz rfl (Rd.kp I hS) rfl H)<|dh 0 rfl rfl (fun w hS => Qhs Qgo rfl (Rd.kp I hS) H (by first | rfl | omega))<|dh 0 rfl rfl (fun w hS => Qmu (cf := Qah.cs) (a := y8) (b := y9) Xss rfl rfl rfl rfl (fun h => Qah.cs_inj h))<|Qa1<|Qam rfl (fun c5 => ?_) (fun c5 => ?_)
 · replace hm := iT c5 hm
   refine qs 1 rfl<|qm rfl<|Qa1<|Qag<|Qbo<|Qb2 ?_
   refine Qb2<|Qbo<|Qb2 ?_
   have aa := ((C.kz K6).trans G7)
   cases hm
   refine ⟨_, _, rfl, Qb1 rfl (Qab rfl), ?_⟩
   exact ⟨rfl, aa⟩
 replace hm := iF c5 hm
 refine Qc4<|Qay<|Qaz<|qg 3 rfl<|qm rfl<|qv rfl (Qce (k := .i64) (a := a7) (b := 1) rfl rfl)<|qm rfl ?_
 refine Qa9 ?_
 have K_38 : Kz [] w4 w7 := (K6.gr G7)
 subst s
 exact ⟨rfl, ⟨n3, w64 (a7 + 1)⟩, sbq, ⟨hm, K_38⟩, Nat.lt_succ_self _⟩
theorem Xkh {p0 p1 vp0_1 zp0_1 gp0_1 op0_1 vp1_2 zp1_2 gp1_2 op1_2 vp1_4 zp1_4 gp1_4 op1_4 vp1_39 zp1_39 gp1_39 op1_39 r} (hm : Qvu p0 p1 = some r) {w : World} (f : Rd w zp0_1 gp0_1 op0_1 18 vp0_1 (p0.Labels.map Qb8.cs)) (g : Rd w zp1_2 gp1_2 op1_2 18 vp1_2 (p1.Head.Items.map Qcc.cs)) (h : Rd w zp1_4 gp1_4 op1_4 2 vp1_4 (p1.Head.Points.map Qah.cs)) (d : Rd w zp1_39 gp1_39 op1_39 1 vp1_39 (p1.Data.map bvc)) :
    Calls Tryz.prog 22 [.agg (Qae.cs p0 vp0_1).toArray, .agg (Qai.cs p1 vp1_2 vp1_4 vp1_39).toArray].toArray w fun e w' => ∃ v, e = .returned v ∧ (v = .bool r ∧ Gr w w') := by
 unfold Qvu at hm
 refine Qa5 29 Tryz.func22 rfl rfl rfl<|qs 3 rfl<|qe rfl (Qaq (cs := Qae.cs p0 vp0_1) rfl rfl) ?_
 rintro _ w1 ⟨b1, rfl, u, j, G1⟩
 refine qe rfl (Qaq (cs := Qai.cs p1 vp1_2 vp1_4 vp1_39) rfl rfl) ?_
 rintro _ w2 ⟨b2, rfl, x, i, G2⟩
 refine qm rfl<|qd 25 rfl<|qv rfl (Qa0 Qtw rfl) ?_
 have B9 := (j.gr G2)
 refine qv rfl (Qa2 (v := vp0_1) Qvg rfl B9 rfl) ?_
 have Y1 := Gr.trans G1 G2
 have k := (f.gr Y1)
 refine qv rfl (Qbi (l := p0.Labels) (c := Qb8.cs) Tryz.underlying29 rfl k)<|qv rfl (Qey (a := (p0.Labels.length : Int)) (b := 100) rfl rfl)<|qp rfl (Qac rfl) (fun c1 => ?_) (fun c1 => ?_)
 · replace hm := iT c1 hm
   refine qk rfl<|qk rfl<|qk rfl<|qk rfl<|qk rfl<|qm rfl<|qm rfl ?_
   refine qk rfl<|qk rfl<|qk rfl<|qk rfl<|qk rfl<|qm rfl<|qm rfl ?_
   refine qk rfl<|qk rfl<|qk rfl<|qk rfl<|qm rfl<|qm rfl<|Qa1 ?_
   refine Qag ?_
   have m := ((Gr.refl w).trans Y1)
   cases hm
   refine ⟨_, _, rfl, Qb1 rfl (Qab rfl), ?_⟩
   exact ⟨rfl, m⟩
 replace hm := iF c1 hm
 refine qv rfl (Qa0 Qmf rfl)<|qv rfl (Qa0 Qhu rfl)<|qv rfl (Qa2 (v := vp1_2) Qkf rfl i rfl) ?_
 have n := (g.gr Y1)
 refine qv rfl (Qbi (l := p1.Head.Items) (c := Qcc.cs) Tryz.underlying45 rfl n)<|qv rfl (Qey (a := (p1.Head.Items.length : Int)) (b := 100) rfl rfl)<|qm rfl<|qp rfl (Qac rfl) (fun c2 => ?_) (fun c2 => ?_)
 · replace hm := iT c2 hm
   refine qk rfl<|qk rfl<|qk rfl<|qk rfl<|qk rfl<|qm rfl<|qm rfl ?_
   refine qk rfl<|qk rfl<|qk rfl<|qk rfl<|qm rfl<|qm rfl<|Qa1 ?_
   refine Qag ?_
   have o := ((Gr.refl w).trans Y1)
   cases hm
   refine ⟨_, _, rfl, Qb1 rfl (Qab rfl), ?_⟩
   exact ⟨rfl, o⟩
 replace hm := iF c2 hm
 refine qv rfl (Qa0 Qmf rfl)<|qv rfl (Qa0 Qgi rfl)<|qv rfl (Qa2 (v := vp1_4) Qix rfl i rfl) ?_
 have p := (h.gr Y1)
 refine qv rfl (Qbi (l := p1.Head.Points) (c := Qah.cs) Tryz.underlying46 rfl p)<|qv rfl (Qey (a := (p1.Head.Points.length : Int)) (b := 50) rfl rfl)<|qm rfl<|qp rfl (Qac rfl) (fun c3 => ?_) (fun c3 => ?_)
 · replace hm := iT c3 hm
   refine qk rfl<|qk rfl<|qk rfl<|qk rfl<|qm rfl<|qm rfl<|Qa1 ?_
   refine Qag ?_
   have q := ((Gr.refl w).trans Y1)
   cases hm
   refine ⟨_, _, rfl, Qb1 rfl (Qab rfl), ?_⟩
   exact ⟨rfl, q⟩
 replace hm := iF c3 hm
 refine qv rfl (Qa0 Qrp rfl)<|qv rfl (Qa2 (v := vp1_39) Qmm rfl i rfl) ?_
 have s := (d.gr Y1)
 refine qv rfl (Qbi (l := p1.Data) (c := bvc) Tryz.underlying50 rfl s)<|qv rfl (Qey (a := (p1.Data.length : Int)) (b := 1000) rfl rfl)<|qm rfl<|qm rfl<|Qa1<|Qag ?_
 have t := ((Gr.refl w).trans Y1)
 cases hm
 refine ⟨_, _, rfl, Qb1 rfl (Qab rfl), ?_⟩
 exact ⟨rfl, t⟩
end Go.Proofs.YtjdffpglgkefmaaGreat.Mx
