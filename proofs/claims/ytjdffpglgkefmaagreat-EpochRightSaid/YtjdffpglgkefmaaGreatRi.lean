/- Walks that follow mirrors: Ri. Printed by mx.py. -/
import Derived.Test.YtjdffpglgkefmaaGreatXg
import Derived.Test.YtjdffpglgkefmaaGreatZd
set_option linter.unusedVariables false
set_option linter.unusedSimpArgs false
set_option maxRecDepth 100000
set_option maxHeartbeats 2000000
namespace Go.Proofs.YtjdffpglgkefmaaGreat.Mx
open Go Go.RowKit Go.Sx
theorem en_42 : En Tryz.prog 42 := fun _ _ => by kernel_rfl
theorem en_43 : En Tryz.prog 43 := fun _ _ => by kernel_rfl
theorem law05_EpochRight_w {p0 p1 p2 p3 r} (hm : law05_EpochRight p0 p1 p2 p3 = some r) {w : World} :
    Calls Tryz.prog 7 [.agg (TAir.cs p0).toArray, .int .i64 p1, .int .i64 p2, .int .i64 p3].toArray w fun e w' => ∃ v, e = .returned v ∧ (v = .bool r ∧ Gr w w') := by
 unfold law05_EpochRight at hm
 refine calls_of_sw 102 Tryz.func7 rfl rfl rfl<|qs 2 rfl<|qe rfl (ev_box (cs := TAir.cs p0) rfl rfl) ?_
 rintro _ w1 ⟨b1, rfl, hbw1, Bw1, G1⟩
 have z1 := G1.size
 have lt2 := Bw1.lt
 refine qm rfl<|qd 2 rfl ?_
 obtain ⟨x1, hx1, hm⟩ := bnd hm
 refine qe rfl (eC en_42 rfl (law05_alive_w hx1)) ?_
 rintro _ w2 ⟨rfl, G2⟩
 have z3 := G2.size
 refine qm rfl<|sd_done<|sw_seq ?_
 have X4 := (((Gr.refl w).trans G1).trans G2)
 refine qj (β := Bool) (rg 15 34) (fun a2 => [(48, .bool a2)]) (fun a2 wr => (law05_EpochRight_J1 p0 p1 p2 p3 x1 a2 = some r) ∧ Kz [] w2 wr) ?_ ?_
 · refine qg 34 rfl ?_
   have B18 := (Bw1.gr G2)
   refine qv rfl (vv_loadW agg_65 rfl B18 rfl) ?_
   obtain ⟨x7, hx7, hm⟩ := bnd hm
   refine qe rfl (eC en_43 rfl (ref05_ValidAir_w hx7)) ?_
   rintro _ w6 ⟨rfl, G6⟩
   have z19 := G6.size
   refine qv rfl (vv_not rfl)<|qp rfl (vv_move rfl) (fun c7 => ?_) (fun c7 => ?_)
   · replace hm := cnd_t c7 hm
     refine qk rfl<|qk rfl<|qm rfl<|qm rfl<|qk rfl<|qk rfl<|qm rfl<|qm rfl<|qk rfl<|qk rfl<|qm rfl<|qm rfl<|qk rfl ?_
     refine qk rfl<|qk rfl<|qk rfl<|qm rfl<|qm rfl<|qk rfl<|qk rfl<|qk rfl<|qk rfl<|qk rfl<|qm rfl<|qm rfl<|qk rfl ?_
     refine qk rfl<|qk rfl<|qk rfl<|qm rfl<|sd_nil ?_
     exact ⟨rfl, true, sbq, hm, (kz0.gr G6)⟩
   replace hm := cnd_f c7 hm
   refine qm rfl<|qv rfl (vv_lss (a := p1) (b := 0) rfl rfl)<|qm rfl<|qp rfl (vv_move rfl) (fun c8 => ?_) (fun c8 => ?_)
   · replace hm := iT c8 hm
     refine qk rfl<|qk rfl<|qm rfl<|qm rfl<|qk rfl<|qk rfl<|qm rfl<|qm rfl<|qk rfl<|qk rfl<|qk rfl<|qk rfl<|qm rfl ?_
     refine qm rfl<|qk rfl<|qk rfl<|qk rfl<|qk rfl<|qk rfl<|qm rfl<|qm rfl<|qk rfl<|qk rfl<|qk rfl<|qk rfl<|qm rfl ?_
     refine sd_nil ?_
     exact ⟨rfl, true, sbq, hm, (kz0.gr G6)⟩
   replace hm := iF c8 hm
   refine qm rfl<|qv rfl (vv_gtr (a := p1) (b := 1099511624776) rfl rfl)<|qm rfl<|qp rfl (vv_move rfl) (fun c9 => ?_) (fun c9 => ?_)
   · replace hm := iT c9 hm
     refine qk rfl<|qk rfl<|qm rfl<|qm rfl<|qk rfl<|qk rfl<|qk rfl<|qk rfl<|qm rfl<|qm rfl<|qk rfl<|qk rfl<|qk rfl ?_
     refine qk rfl<|qk rfl<|qm rfl<|qm rfl<|qk rfl<|qk rfl<|qk rfl<|qk rfl<|qm rfl<|sd_nil ?_
     exact ⟨rfl, true, sbq, hm, (kz0.gr G6)⟩
   replace hm := iF c9 hm
   refine qm rfl<|qv rfl (vv_lss (a := p2) (b := 0) rfl rfl)<|qm rfl<|qp rfl (vv_move rfl) (fun c10 => ?_) (fun c10 => ?_)
   · replace hm := iT c10 hm
     refine qk rfl<|qk rfl<|qk rfl<|qk rfl<|qm rfl<|qm rfl<|qk rfl<|qk rfl<|qk rfl<|qk rfl<|qk rfl<|qm rfl<|qm rfl ?_
     refine qk rfl<|qk rfl<|qk rfl<|qk rfl<|qm rfl<|sd_nil ?_
     exact ⟨rfl, true, sbq, hm, (kz0.gr G6)⟩
   replace hm := iF c10 hm
   refine qm rfl<|qv rfl (vv_fieldAddr fa_65_4 rfl) ?_
   have B24 := (B18.gr G6)
   refine qv rfl (vv_load1 (v := .int .i64 p0.Delay) one_3 rfl B24 rfl)<|qv rfl (vv_gtr (a := p2) (b := p0.Delay) rfl rfl)<|qm rfl<|qp rfl (vv_move rfl) (fun c11 => ?_) (fun c11 => ?_)
   · replace hm := iT c11 hm
     refine qk rfl<|qk rfl<|qk rfl<|qk rfl<|qk rfl<|qm rfl<|qm rfl<|qk rfl<|qk rfl<|qk rfl<|qk rfl<|qm rfl<|sd_nil ?_
     exact ⟨rfl, true, sbq, hm, (kz0.gr G6)⟩
   replace hm := iF c11 hm
   refine qm rfl<|qv rfl (vv_fieldAddr fa_65_3 rfl)<|qv rfl (vv_load1 (v := .int .i64 p0.Drift) one_3 rfl B24 rfl)<|qv rfl (vv_negI (a := p0.Drift) rfl)<|qv rfl (vv_lss (a := p3) (b := w64 (-p0.Drift)) rfl rfl)<|qm rfl<|qp rfl (vv_move rfl) (fun c12 => ?_) (fun c12 => ?_)
   · replace hm := iT c12 hm
     refine qk rfl<|qk rfl<|qk rfl<|qk rfl<|qm rfl<|sd_nil ?_
     exact ⟨rfl, true, sbq, hm, (kz0.gr G6)⟩
   replace hm := iF c12 hm
   refine qm rfl<|qv rfl (vv_fieldAddr fa_65_3 rfl)<|qv rfl (vv_load1 (v := .int .i64 p0.Drift) one_3 rfl B24 rfl)<|qv rfl (vv_gtr (a := p3) (b := p0.Drift) rfl rfl)<|qm rfl<|sd_nil ?_
   exact ⟨rfl, (decide (p0.Drift < p3)), sbq, hm, (kz0.gr G6)⟩
 clear hm; rintro a2 w3 ⟨hm, K3⟩
 have z5 := K3.size
 unfold law05_EpochRight_J1 at hm
 refine sw_cond rfl (fun c1 => ?_) (fun c1 => ?_)
 · replace hm := cnd_t c1 hm
   refine qs 2 rfl<|qm rfl<|qm rfl<|qb ?_
   have X6 := (X4.kz K3)
   cases hm
   refine ⟨_, _, rfl, res_1 rfl (rv_tmp rfl), ?_⟩
   exact ⟨rfl, X6⟩
 replace hm := cnd_f c1 hm
 refine qu<|qs 8 rfl ?_
 have B7 := ((Bw1.gr G2).kz K3)
 refine qv rfl (vv_loadW agg_65 rfl B7 rfl)<|qm rfl ?_
 obtain ⟨x3, hx3, hm⟩ := bnd hm
 refine qe rfl (eC en_44 rfl (epoch_PeriodOf_w hx3)) ?_
 rintro _ w4 ⟨rfl, G4⟩
 have z8 := G4.size
 refine qm rfl<|qm rfl<|qm rfl<|qm rfl<|qm rfl<|qd 17 rfl ?_
 have B9 := (B7.gr G4)
 refine qv rfl (vv_loadW agg_65 rfl B9 rfl)<|qm rfl<|qm rfl<|qv rfl (vv_add (k := .i64) (a := p1) (b := p2) rfl rfl)<|qm rfl<|qv rfl (vv_add (k := .i64) (a := w64 (p1 + p2)) (b := p3) rfl rfl)<|qm rfl ?_
 obtain ⟨x4, hx4, hm⟩ := bnd hm
 refine qv rfl (vv_remI (a := x3.1) (b := 4) rfl rfl hx4)<|qv rfl (vv_add (k := .i64) (a := x4) (b := 4) rfl rfl) ?_
 obtain ⟨x5, hx5, hm⟩ := bnd hm
 refine qv rfl (vv_remI (a := w64 (x4 + 4)) (b := 4) rfl rfl hx5)<|qv rfl (vv_cvIB cv_3_5 rfl) ?_
 obtain ⟨x6, hx6, hm⟩ := bnd hm
 refine qe rfl (eC en_45 rfl (epoch_Resolve_w hx6)) ?_
 rintro _ w5 ⟨rfl, G5⟩
 have z10 := G5.size
 refine qm rfl<|qm rfl<|qm rfl<|qm rfl<|qm rfl<|qd 32 rfl<|qm rfl<|qpF rfl (vv_move rfl) (fun c2 => ?_) (fun c2 => ?_)
 · replace hm := cnd_f c2 hm
   refine qk rfl<|qk rfl<|qm rfl<|qm rfl<|qk rfl<|qk rfl<|qm rfl<|qm rfl<|qk rfl<|qk rfl<|qk rfl<|qm rfl<|qm rfl ?_
   refine qk rfl<|qk rfl<|qk rfl<|qk rfl<|qk rfl<|qk rfl<|qm rfl<|qm rfl<|qk rfl<|qk rfl<|qk rfl<|qk rfl<|qk rfl ?_
   refine qk rfl<|qk rfl<|qm rfl<|qm rfl<|sd_done<|sw_ret ?_
   have Y1 := Gr.trans G4 G5
   have X17 := ((X4.kz K3).trans Y1)
   cases hm
   refine ⟨_, _, rfl, res_1 rfl (rv_tmp rfl), ?_⟩
   exact ⟨rfl, X17⟩
 replace hm := cnd_t c2 hm
 refine qm rfl<|qv rfl (vv_eql (a := x3.2) (b := 0) rfl rfl)<|qm rfl<|qpF rfl (vv_move rfl) (fun c3 => ?_) (fun c3 => ?_)
 · replace hm := iF c3 hm
   refine qk rfl<|qk rfl<|qm rfl<|qm rfl<|qk rfl<|qk rfl<|qk rfl<|qm rfl<|qm rfl<|qk rfl<|qk rfl<|qk rfl<|qk rfl ?_
   refine qk rfl<|qk rfl<|qm rfl<|qm rfl<|qk rfl<|qk rfl<|qk rfl<|qk rfl<|qk rfl<|qk rfl<|qk rfl<|qm rfl<|qm rfl ?_
   refine sd_done<|sw_ret ?_
   have Y2 := Gr.trans G4 G5
   have X16 := ((X4.kz K3).trans Y2)
   cases hm
   refine ⟨_, _, rfl, res_1 rfl (rv_tmp rfl), ?_⟩
   exact ⟨rfl, X16⟩
 replace hm := iT c3 hm
 refine qm rfl<|qv rfl (vv_eql (a := x6.2) (b := 0) rfl rfl)<|qm rfl<|qpF rfl (vv_move rfl) (fun c4 => ?_) (fun c4 => ?_)
 · replace hm := iF c4 hm
   refine qk rfl<|qk rfl<|qk rfl<|qm rfl<|qm rfl<|qk rfl<|qk rfl<|qk rfl<|qk rfl<|qk rfl<|qk rfl<|qm rfl<|qm rfl ?_
   refine qk rfl<|qk rfl<|qk rfl<|qk rfl<|qk rfl<|qk rfl<|qk rfl<|qm rfl<|qm rfl<|sd_done<|sw_ret ?_
   have Y3 := Gr.trans G4 G5
   have X15 := ((X4.kz K3).trans Y3)
   cases hm
   refine ⟨_, _, rfl, res_1 rfl (rv_tmp rfl), ?_⟩
   exact ⟨rfl, X15⟩
 replace hm := iT c4 hm
 refine qm rfl<|qm rfl<|qv rfl (vv_eql (a := x6.1) (b := x3.1) rfl rfl)<|qm rfl<|qpF rfl (vv_move rfl) (fun c5 => ?_) (fun c5 => ?_)
 · replace hm := iF c5 hm
   refine qk rfl<|qk rfl<|qk rfl<|qk rfl<|qk rfl<|qk rfl<|qm rfl<|qm rfl<|qk rfl<|qk rfl<|qk rfl<|qk rfl<|qk rfl ?_
   refine qk rfl<|qk rfl<|qm rfl<|qm rfl<|sd_done<|sw_ret ?_
   have Y4 := Gr.trans G4 G5
   have X14 := ((X4.kz K3).trans Y4)
   cases hm
   refine ⟨_, _, rfl, res_1 rfl (rv_tmp rfl), ?_⟩
   exact ⟨rfl, X14⟩
 replace hm := iT c5 hm
 refine qm rfl<|qv rfl (vv_fieldAddr fa_65_1 rfl) ?_
 have B11 := (B9.gr G5)
 refine qv rfl (vv_load1 (v := .int .i64 p0.Word) one_3 rfl B11 rfl)<|qv rfl (vv_mul (k := .i64) (a := x3.1) (b := p0.Word) rfl rfl)<|qm rfl<|qv rfl (vv_leq (a := w64 (x3.1 * p0.Word)) (b := p1) rfl rfl)<|qm rfl<|qpF rfl (vv_move rfl) (fun c6 => ?_) (fun c6 => ?_)
 · replace hm := iF c6 hm
   refine qk rfl<|qk rfl<|qk rfl<|qk rfl<|qk rfl<|qk rfl<|qk rfl<|qm rfl<|qm rfl<|sd_done<|sw_ret ?_
   have Y5 := Gr.trans G4 G5
   have X13 := ((X4.kz K3).trans Y5)
   cases hm
   refine ⟨_, _, rfl, res_1 rfl (rv_tmp rfl), ?_⟩
   exact ⟨rfl, X13⟩
 replace hm := iT c6 hm
 refine qm rfl<|qm rfl<|qv rfl (vv_add (k := .i64) (a := x3.1) (b := 1) rfl rfl)<|qv rfl (vv_fieldAddr fa_65_1 rfl)<|qv rfl (vv_load1 (v := .int .i64 p0.Word) one_3 rfl B11 rfl)<|qv rfl (vv_mul (k := .i64) (a := w64 (x3.1 + 1)) (b := p0.Word) rfl rfl)<|qv rfl (vv_lss (a := p1) (b := w64 ((w64 (x3.1 + 1)) * p0.Word)) rfl rfl)<|qm rfl<|qm rfl<|sd_done<|sw_ret ?_
 have Y6 := Gr.trans G4 G5
 have X12 := ((X4.kz K3).trans Y6)
 cases hm
 refine ⟨_, _, rfl, res_1 rfl (rv_tmp rfl), ?_⟩
 exact ⟨rfl, X12⟩
end Go.Proofs.YtjdffpglgkefmaaGreat.Mx
