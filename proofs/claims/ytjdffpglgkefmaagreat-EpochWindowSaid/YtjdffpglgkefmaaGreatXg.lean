/- Walks that follow mirrors: Xg. Printed by mx.py. -/
import Derived.Test.YtjdffpglgkefmaaGreatXf
import Derived.Test.YtjdffpglgkefmaaGreatZd
set_option linter.unusedVariables false
set_option linter.unusedSimpArgs false
set_option maxRecDepth 100000
set_option maxHeartbeats 2000000
namespace Go.Proofs.YtjdffpglgkefmaaGreat.Mx
open Go Go.RowKit Go.Sx
theorem eqc_131 : EqC Tryz.prog 2 131 [.i .i64, .i .i64] := eqc_struct Tryz.underlying131 (by kernel_rfl) agg_131 (show EqF _ 1 _ _ _ from (eqf_cons (ks1 := [.i .i64]) (ks2 := [.i .i64]) rfl (by simp) (eqc_3.up (by decide)) (eqf_cons (ks1 := [.i .i64]) (ks2 := []) rfl (by simp) (eqc_3.up (by decide)) (eqf_nil _))))
theorem eqc_133 : EqC Tryz.prog 3 133 [.i .i64, .i .i64, .i .u8, .i .u8, .i .u8, .i .u8, .i .u8, .i .u8, .i .u8, .i .u8, .i .u8, .i .u8, .i .u8, .i .u8, .i .u8, .i .u8, .i .u8, .i .u8] := eqc_struct Tryz.underlying133 (by kernel_rfl) agg_133 (show EqF _ 2 _ _ _ from (eqf_cons (ks1 := [.i .i64, .i .i64]) (ks2 := [.i .u8, .i .u8, .i .u8, .i .u8, .i .u8, .i .u8, .i .u8, .i .u8, .i .u8, .i .u8, .i .u8, .i .u8, .i .u8, .i .u8, .i .u8, .i .u8]) rfl (by simp) (eqc_131.up (by decide)) (eqf_cons (ks1 := [.i .u8, .i .u8, .i .u8, .i .u8, .i .u8, .i .u8, .i .u8, .i .u8, .i .u8, .i .u8, .i .u8, .i .u8, .i .u8, .i .u8, .i .u8, .i .u8]) (ks2 := []) rfl (by simp) (eqc_23.up (by decide)) (eqf_nil _))))
theorem eqt_133 : EqT Tryz.prog 133 [.i .i64, .i .i64, .i .u8, .i .u8, .i .u8, .i .u8, .i .u8, .i .u8, .i .u8, .i .u8, .i .u8, .i .u8, .i .u8, .i .u8, .i .u8, .i .u8, .i .u8, .i .u8] := ⟨by kernel_rfl, agg_133, 3, by decide, eqc_133⟩
theorem eqc_31 : EqC Tryz.prog 2 31 [.i .u64, .i .u64] := eqc_struct Tryz.underlying31 (by kernel_rfl) agg_31 (show EqF _ 1 _ _ _ from (eqf_cons (ks1 := [.i .u64]) (ks2 := [.i .u64]) rfl (by simp) (eqc_24.up (by decide)) (eqf_cons (ks1 := [.i .u64]) (ks2 := []) rfl (by simp) (eqc_24.up (by decide)) (eqf_nil _))))
theorem eqt_31 : EqT Tryz.prog 31 [.i .u64, .i .u64] := ⟨by kernel_rfl, agg_31, 2, by decide, eqc_31⟩
theorem ref05_ValidAir_w {p0 r} (hm : ref05_ValidAir p0 = some r) {w : World} :
    Calls Tryz.prog 43 [.agg (TAir.cs p0).toArray].toArray w fun e w' => ∃ v, e = .returned v ∧ (v = .bool r ∧ Gr w w') := by
 unfold ref05_ValidAir at hm
 refine calls_of_sw 84 Tryz.func43 rfl rfl rfl<|qs 2 rfl<|qe rfl (ev_box (cs := TAir.cs p0) rfl rfl) ?_
 rintro _ w1 ⟨b1, rfl, hbw1, Bw1, G1⟩
 have z1 := G1.size
 have lt2 := Bw1.lt
 refine qm rfl<|sd_done<|sw_seq ?_
 have X3 := ((Gr.refl w).trans G1)
 refine qj (β := Bool) (rg 3 31) (fun a1 => [(33, .bool a1)]) (fun a1 wr => (ref05_ValidAir_J1 p0 a1 = some r) ∧ Kz [] w1 wr) ?_ ?_
 · refine qg 31 rfl<|qv rfl (vv_fieldAddr fa_65_1 rfl)<|qv rfl (vv_load1 (v := .int .i64 p0.Word) one_3 rfl Bw1 rfl)<|qv rfl (vv_lss (a := p0.Word) (b := 1) rfl rfl)<|qp rfl (vv_move rfl) (fun c9 => ?_) (fun c9 => ?_)
   · replace hm := iT c9 hm
     refine qk rfl<|qk rfl<|qk rfl<|qm rfl<|qm rfl<|qk rfl<|qk rfl ?_
     refine qk rfl<|qk rfl<|qk rfl<|qm rfl<|qm rfl<|qk rfl<|qk rfl ?_
     refine qk rfl<|qk rfl<|qk rfl<|qk rfl<|qm rfl<|qm rfl<|qk rfl ?_
     refine qk rfl<|qk rfl<|qk rfl<|qk rfl<|qk rfl<|qm rfl<|sd_nil ?_
     exact ⟨rfl, true, sbq, hm, kz0⟩
   replace hm := iF c9 hm
   refine qv rfl (vv_fieldAddr fa_65_1 rfl)<|qv rfl (vv_load1 (v := .int .i64 p0.Word) one_3 rfl Bw1 rfl)<|qv rfl (vv_gtr (a := p0.Word) (b := 1000) rfl rfl)<|qm rfl<|qp rfl (vv_move rfl) (fun c10 => ?_) (fun c10 => ?_)
   · replace hm := iT c10 hm
     refine qk rfl<|qk rfl<|qk rfl<|qk rfl<|qk rfl<|qm rfl<|qm rfl ?_
     refine qk rfl<|qk rfl<|qk rfl<|qk rfl<|qk rfl<|qk rfl<|qm rfl ?_
     refine qm rfl<|qk rfl<|qk rfl<|qk rfl<|qk rfl<|qk rfl<|qk rfl ?_
     refine qm rfl<|sd_nil ?_
     exact ⟨rfl, true, sbq, hm, kz0⟩
   replace hm := iF c10 hm
   refine qv rfl (vv_fieldAddr fa_65_0 rfl)<|qv rfl (vv_load1 (v := .int .i64 p0.Epoch) one_3 rfl Bw1 rfl)<|qv rfl (vv_fieldAddr fa_65_1 rfl)<|qv rfl (vv_load1 (v := .int .i64 p0.Word) one_3 rfl Bw1 rfl)<|qv rfl (vv_lss (a := p0.Epoch) (b := p0.Word) rfl rfl)<|qm rfl<|qp rfl (vv_move rfl) (fun c11 => ?_) (fun c11 => ?_)
   · replace hm := iT c11 hm
     refine qk rfl<|qk rfl<|qk rfl<|qk rfl<|qk rfl<|qk rfl<|qm rfl ?_
     refine qm rfl<|qk rfl<|qk rfl<|qk rfl<|qk rfl<|qk rfl<|qk rfl ?_
     refine qm rfl<|sd_nil ?_
     exact ⟨rfl, true, sbq, hm, kz0⟩
   replace hm := iF c11 hm
   refine qv rfl (vv_fieldAddr fa_65_0 rfl)<|qv rfl (vv_load1 (v := .int .i64 p0.Epoch) one_3 rfl Bw1 rfl)<|qv rfl (vv_fieldAddr fa_65_1 rfl)<|qv rfl (vv_load1 (v := .int .i64 p0.Word) one_3 rfl Bw1 rfl)<|qv rfl (vv_mul (k := .i64) (a := 1000) (b := p0.Word) rfl rfl)<|qv rfl (vv_gtr (a := p0.Epoch) (b := w64 (1000 * p0.Word)) rfl rfl)<|qm rfl ?_
   refine qp rfl (vv_move rfl) (fun c12 => ?_) (fun c12 => ?_)
   · replace hm := iT c12 hm
     refine qk rfl<|qk rfl<|qk rfl<|qk rfl<|qk rfl<|qk rfl<|qm rfl ?_
     refine sd_nil ?_
     exact ⟨rfl, true, sbq, hm, kz0⟩
   replace hm := iF c12 hm
   refine qv rfl (vv_fieldAddr fa_65_0 rfl)<|qv rfl (vv_load1 (v := .int .i64 p0.Epoch) one_3 rfl Bw1 rfl)<|qv rfl (vv_fieldAddr fa_65_1 rfl)<|qv rfl (vv_load1 (v := .int .i64 p0.Word) one_3 rfl Bw1 rfl) ?_
   obtain ⟨x3, hx3, hm⟩ := bnd hm
   refine qv rfl (vv_remI (a := p0.Epoch) (b := p0.Word) rfl rfl hx3)<|qv rfl (vv_neq (a := x3) (b := 0) rfl rfl)<|qm rfl<|sd_nil ?_
   exact ⟨rfl, (decide (x3 ≠ 0)), sbq, hm, kz0⟩
 clear hm; rintro a1 w2 ⟨hm, K2⟩
 have z4 := K2.size
 unfold ref05_ValidAir_J1 at hm
 refine sw_cond rfl (fun c1 => ?_) (fun c1 => ?_)
 · replace hm := cnd_t c1 hm
   refine qs 1 rfl<|qm rfl<|qb ?_
   have X5 := (X3.kz K2)
   cases hm
   refine ⟨_, _, rfl, res_1 rfl (rv_tmp rfl), ?_⟩
   exact ⟨rfl, X5⟩
 replace hm := cnd_f c1 hm
 refine qu<|sw_seq ?_
 have X6 := (X3.kz K2)
 refine qj (β := Bool) (rg 34 30) (fun a2 => [(63, .bool a2)]) (fun a2 wr => (ref05_ValidAir_J2 p0 a2 = some r) ∧ Kz [] w2 wr) ?_ ?_
 · refine qg 30 rfl<|qv rfl (vv_fieldAddr fa_65_2 rfl) ?_
   have B12 := (Bw1.kz K2)
   refine qv rfl (vv_load1 (v := .int .i64 p0.Early) one_3 rfl B12 rfl)<|qv rfl (vv_lss (a := p0.Early) (b := 0) rfl rfl)<|qp rfl (vv_move rfl) (fun c4 => ?_) (fun c4 => ?_)
   · replace hm := iT c4 hm
     refine qk rfl<|qk rfl<|qk rfl<|qm rfl<|qm rfl<|qk rfl<|qk rfl ?_
     refine qk rfl<|qm rfl<|qm rfl<|qk rfl<|qk rfl<|qk rfl<|qk rfl ?_
     refine qk rfl<|qm rfl<|qm rfl<|qk rfl<|qk rfl<|qk rfl<|qm rfl ?_
     refine qm rfl<|qk rfl<|qk rfl<|qk rfl<|qm rfl<|sd_nil ?_
     exact ⟨rfl, true, sbq, hm, kz0⟩
   replace hm := iF c4 hm
   refine qv rfl (vv_fieldAddr fa_65_3 rfl)<|qv rfl (vv_load1 (v := .int .i64 p0.Drift) one_3 rfl B12 rfl)<|qv rfl (vv_lss (a := p0.Drift) (b := 0) rfl rfl)<|qm rfl<|qp rfl (vv_move rfl) (fun c5 => ?_) (fun c5 => ?_)
   · replace hm := iT c5 hm
     refine qk rfl<|qk rfl<|qk rfl<|qm rfl<|qm rfl<|qk rfl<|qk rfl ?_
     refine qk rfl<|qk rfl<|qk rfl<|qm rfl<|qm rfl<|qk rfl<|qk rfl ?_
     refine qk rfl<|qm rfl<|qm rfl<|qk rfl<|qk rfl<|qk rfl<|qm rfl ?_
     refine sd_nil ?_
     exact ⟨rfl, true, sbq, hm, kz0⟩
   replace hm := iF c5 hm
   refine qv rfl (vv_fieldAddr fa_65_4 rfl)<|qv rfl (vv_load1 (v := .int .i64 p0.Delay) one_3 rfl B12 rfl)<|qv rfl (vv_lss (a := p0.Delay) (b := 0) rfl rfl)<|qm rfl<|qp rfl (vv_move rfl) (fun c6 => ?_) (fun c6 => ?_)
   · replace hm := iT c6 hm
     refine qk rfl<|qk rfl<|qk rfl<|qk rfl<|qk rfl<|qm rfl<|qm rfl ?_
     refine qk rfl<|qk rfl<|qk rfl<|qm rfl<|qm rfl<|qk rfl<|qk rfl ?_
     refine qk rfl<|qm rfl<|sd_nil ?_
     exact ⟨rfl, true, sbq, hm, kz0⟩
   replace hm := iF c6 hm
   refine qv rfl (vv_fieldAddr fa_65_2 rfl)<|qv rfl (vv_load1 (v := .int .i64 p0.Early) one_3 rfl B12 rfl)<|qv rfl (vv_fieldAddr fa_65_0 rfl)<|qv rfl (vv_load1 (v := .int .i64 p0.Epoch) one_3 rfl B12 rfl)<|qv rfl (vv_gtr (a := p0.Early) (b := p0.Epoch) rfl rfl)<|qm rfl<|qp rfl (vv_move rfl) (fun c7 => ?_) (fun c7 => ?_)
   · replace hm := iT c7 hm
     refine qk rfl<|qk rfl<|qk rfl<|qm rfl<|qm rfl<|qk rfl<|qk rfl ?_
     refine qk rfl<|qm rfl<|sd_nil ?_
     exact ⟨rfl, true, sbq, hm, kz0⟩
   replace hm := iF c7 hm
   refine qv rfl (vv_fieldAddr fa_65_3 rfl)<|qv rfl (vv_load1 (v := .int .i64 p0.Drift) one_3 rfl B12 rfl)<|qv rfl (vv_gtr (a := p0.Drift) (b := 3000) rfl rfl)<|qm rfl<|qp rfl (vv_move rfl) (fun c8 => ?_) (fun c8 => ?_)
   · replace hm := iT c8 hm
     refine qk rfl<|qk rfl<|qk rfl<|qm rfl<|sd_nil ?_
     exact ⟨rfl, true, sbq, hm, kz0⟩
   replace hm := iF c8 hm
   refine qv rfl (vv_fieldAddr fa_65_4 rfl)<|qv rfl (vv_load1 (v := .int .i64 p0.Delay) one_3 rfl B12 rfl)<|qv rfl (vv_gtr (a := p0.Delay) (b := 3000) rfl rfl)<|qm rfl<|sd_nil ?_
   exact ⟨rfl, (decide ((3000 : Int) < p0.Delay)), sbq, hm, kz0⟩
 clear hm; rintro a2 w3 ⟨hm, K3⟩
 have z7 := K3.size
 unfold ref05_ValidAir_J2 at hm
 refine sw_cond rfl (fun c2 => ?_) (fun c2 => ?_)
 · replace hm := cnd_t c2 hm
   refine qs 1 rfl<|qm rfl<|qb ?_
   have X8 := (X6.kz K3)
   cases hm
   refine ⟨_, _, rfl, res_1 rfl (rv_tmp rfl), ?_⟩
   exact ⟨rfl, X8⟩
 replace hm := cnd_f c2 hm
 refine qu<|qs 21 rfl<|qv rfl (vv_fieldAddr fa_65_3 rfl) ?_
 have B9 := ((Bw1.kz K2).kz K3)
 refine qv rfl (vv_load1 (v := .int .i64 p0.Drift) one_3 rfl B9 rfl)<|qv rfl (vv_mul (k := .i64) (a := 2) (b := p0.Drift) rfl rfl)<|qv rfl (vv_fieldAddr fa_65_4 rfl)<|qv rfl (vv_load1 (v := .int .i64 p0.Delay) one_3 rfl B9 rfl)<|qv rfl (vv_add (k := .i64) (a := w64 (2 * p0.Drift)) (b := p0.Delay) rfl rfl)<|qv rfl (vv_fieldAddr fa_65_1 rfl)<|qv rfl (vv_load1 (v := .int .i64 p0.Word) one_3 rfl B9 rfl) ?_
 refine qv rfl (vv_mul (k := .i64) (a := 3) (b := p0.Word) rfl rfl)<|qv rfl (vv_lss (a := w64 ((w64 (2 * p0.Drift)) + p0.Delay)) (b := w64 (3 * p0.Word)) rfl rfl)<|qpF rfl (vv_move rfl) (fun c3 => ?_) (fun c3 => ?_)
 · replace hm := iF c3 hm
   refine qk rfl<|qk rfl<|qk rfl<|qk rfl<|qk rfl<|qk rfl<|qk rfl ?_
   refine qk rfl<|qm rfl<|qm rfl<|sd_done<|sw_ret ?_
   have X11 := (X6.kz K3)
   cases hm
   refine ⟨_, _, rfl, res_1 rfl (rv_tmp rfl), ?_⟩
   exact ⟨rfl, X11⟩
 replace hm := iT c3 hm
 refine qv rfl (vv_fieldAddr fa_65_2 rfl)<|qv rfl (vv_load1 (v := .int .i64 p0.Early) one_3 rfl B9 rfl)<|qv rfl (vv_fieldAddr fa_65_4 rfl)<|qv rfl (vv_load1 (v := .int .i64 p0.Delay) one_3 rfl B9 rfl)<|qv rfl (vv_add (k := .i64) (a := p0.Early) (b := p0.Delay) rfl rfl)<|qv rfl (vv_fieldAddr fa_65_0 rfl)<|qv rfl (vv_load1 (v := .int .i64 p0.Epoch) one_3 rfl B9 rfl) ?_
 refine qv rfl (vv_leq (a := w64 (p0.Early + p0.Delay)) (b := p0.Epoch) rfl rfl)<|qm rfl<|qm rfl<|sd_done<|sw_ret ?_
 have X10 := (X6.kz K3)
 cases hm
 refine ⟨_, _, rfl, res_1 rfl (rv_tmp rfl), ?_⟩
 exact ⟨rfl, X10⟩
theorem ref05_SameHeader_w {p0 p1 vp0_0 zp0_0 gp0_0 op0_0 vp0_2 zp0_2 gp0_2 op0_2 vp1_0 zp1_0 gp1_0 op1_0 vp1_2 zp1_2 gp1_2 op1_2 r} (hm : ref05_SameHeader p0 p1 = some r) {w : World} (hp0_0 : Rd w zp0_0 gp0_0 op0_0 18 vp0_0 (p0.Items.map TItem.cs)) (hp0_2 : Rd w zp0_2 gp0_2 op0_2 2 vp0_2 (p0.Points.map TPoint.cs)) (hp1_0 : Rd w zp1_0 gp1_0 op1_0 18 vp1_0 (p1.Items.map TItem.cs)) (hp1_2 : Rd w zp1_2 gp1_2 op1_2 2 vp1_2 (p1.Points.map TPoint.cs)) :
    Calls Tryz.prog 27 [.agg (THeader.cs p0 vp0_0 vp0_2).toArray, .agg (THeader.cs p1 vp1_0 vp1_2).toArray].toArray w fun e w' => ∃ v, e = .returned v ∧ (v = .bool r ∧ Gr w w') := by
 have lt1 := hp0_0.lth
 have lt2 := hp0_2.lth
 have lt3 := hp1_0.lth
 have lt4 := hp1_2.lth
 unfold ref05_SameHeader at hm
 refine calls_of_sw 80 Tryz.func27 rfl rfl rfl<|qs 3 rfl<|qe rfl (ev_box (cs := THeader.cs p0 vp0_0 vp0_2) rfl rfl) ?_
 rintro _ w1 ⟨b1, rfl, hbw1, Bw1, G1⟩
 have z5 := G1.size
 have lt6 := Bw1.lt
 refine qe rfl (ev_box (cs := THeader.cs p1 vp1_0 vp1_2) rfl rfl) ?_
 rintro _ w2 ⟨b2, rfl, hbw2, Bw2, G2⟩
 have z7 := G2.size
 have lt8 := Bw2.lt
 refine qm rfl<|sd_done<|sw_seq ?_
 have Y1 := Gr.trans G1 G2
 have X9 := ((Gr.refl w).trans Y1)
 refine qj (β := Bool) (rg 7 37) (fun a1 => [(43, .bool a1)]) (fun a1 wr => (ref05_SameHeader_J1 p0 p1 a1 = some r) ∧ Kz [] w2 wr) ?_ ?_
 · refine qg 37 rfl<|qv rfl (vv_fieldAddr fa_48_0 rfl) ?_
   have B40 := (Bw1.gr G2)
   refine qv rfl (vv_load1 (v := vp0_0) one_45 rfl B40 rfl) ?_
   have B41 := (hp0_0.gr Y1)
   refine qv rfl (vv_lenT (l := p0.Items) (c := TItem.cs) Tryz.underlying45 rfl B41)<|qv rfl (vv_fieldAddr fa_48_0 rfl)<|qv rfl (vv_load1 (v := vp1_0) one_45 rfl Bw2 rfl) ?_
   have B42 := (hp1_0.gr Y1)
   refine qv rfl (vv_lenT (l := p1.Items) (c := TItem.cs) Tryz.underlying45 rfl B42)<|qv rfl (vv_neq (a := (p0.Items.length : Int)) (b := (p1.Items.length : Int)) rfl rfl)<|qp rfl (vv_move rfl) (fun c6 => ?_) (fun c6 => ?_)
   · replace hm := iT c6 hm
     refine qk rfl<|qk rfl<|qk rfl<|qk rfl<|qk rfl<|qk rfl<|qk rfl ?_
     refine qm rfl<|qm rfl<|qk rfl<|qk rfl<|qk rfl<|qk rfl<|qk rfl ?_
     refine qm rfl<|qm rfl<|qk rfl<|qk rfl<|qk rfl<|qk rfl<|qk rfl ?_
     refine qm rfl<|qm rfl<|qk rfl<|qk rfl<|qk rfl<|qk rfl<|qk rfl ?_
     refine qm rfl<|sd_nil ?_
     exact ⟨rfl, true, sbq, hm, kz0⟩
   replace hm := iF c6 hm
   refine qv rfl (vv_fieldAddr fa_48_2 rfl)<|qv rfl (vv_load1 (v := vp0_2) one_46 rfl B40 rfl) ?_
   have B44 := (hp0_2.gr Y1)
   refine qv rfl (vv_lenT (l := p0.Points) (c := TPoint.cs) Tryz.underlying46 rfl B44)<|qv rfl (vv_fieldAddr fa_48_2 rfl)<|qv rfl (vv_load1 (v := vp1_2) one_46 rfl Bw2 rfl) ?_
   have B45 := (hp1_2.gr Y1)
   refine qv rfl (vv_lenT (l := p1.Points) (c := TPoint.cs) Tryz.underlying46 rfl B45)<|qv rfl (vv_neq (a := (p0.Points.length : Int)) (b := (p1.Points.length : Int)) rfl rfl)<|qm rfl<|qp rfl (vv_move rfl) (fun c7 => ?_) (fun c7 => ?_)
   · replace hm := iT c7 hm
     refine qk rfl<|qk rfl<|qk rfl<|qk rfl<|qk rfl<|qm rfl<|qm rfl ?_
     refine qk rfl<|qk rfl<|qk rfl<|qk rfl<|qk rfl<|qm rfl<|qm rfl ?_
     refine qk rfl<|qk rfl<|qk rfl<|qk rfl<|qk rfl<|qm rfl<|sd_nil ?_
     exact ⟨rfl, true, sbq, hm, kz0⟩
   replace hm := iF c7 hm
   refine qv rfl (vv_fieldAddr fa_48_1 rfl)<|qv rfl (vv_load1 (v := wv p0.Base) one_24 rfl B40 rfl)<|qv rfl (vv_fieldAddr fa_48_1 rfl)<|qv rfl (vv_load1 (v := wv p1.Base) one_24 rfl Bw2 rfl)<|qv rfl (vv_neqU (c := p0.Base) (d := p1.Base) rfl rfl)<|qm rfl<|qp rfl (vv_move rfl) (fun c8 => ?_) (fun c8 => ?_)
   · replace hm := iT c8 hm
     refine qk rfl<|qk rfl<|qk rfl<|qk rfl<|qk rfl<|qm rfl<|qm rfl ?_
     refine qk rfl<|qk rfl<|qk rfl<|qk rfl<|qk rfl<|qm rfl<|sd_nil ?_
     exact ⟨rfl, true, sbq, hm, kz0⟩
   replace hm := iF c8 hm
   refine qv rfl (vv_fieldAddr fa_48_3 rfl)<|qv rfl (vv_loadM (vs := kb p0.Box) agg_23 rfl B40 rfl rfl)<|qv rfl (vv_fieldAddr fa_48_3 rfl)<|qv rfl (vv_loadM (vs := kb p1.Box) agg_23 rfl Bw2 rfl rfl)<|qv rfl (vv_neqS (cf := kb) (a := p0.Box) (b := p1.Box) eqt_23 rfl rfl rfl rfl (fun h => kb_inj h))<|qm rfl<|qp rfl (vv_move rfl) (fun c9 => ?_) (fun c9 => ?_)
   · replace hm := iT c9 hm
     refine qk rfl<|qk rfl<|qk rfl<|qk rfl<|qk rfl<|qm rfl<|sd_nil ?_
     exact ⟨rfl, true, sbq, hm, kz0⟩
   replace hm := iF c9 hm
   refine qv rfl (vv_fieldAddr fa_48_4 rfl)<|qv rfl (vv_loadM (vs := kb p0.Check) agg_23 rfl B40 rfl rfl)<|qv rfl (vv_fieldAddr fa_48_4 rfl)<|qv rfl (vv_loadM (vs := kb p1.Check) agg_23 rfl Bw2 rfl rfl)<|qv rfl (vv_neqS (cf := kb) (a := p0.Check) (b := p1.Check) eqt_23 rfl rfl rfl rfl (fun h => kb_inj h))<|qm rfl<|sd_nil ?_
   exact ⟨rfl, (decide (p0.Check ≠ p1.Check)), sbq, hm, kz0⟩
 clear hm; rintro a1 w3 ⟨hm, K3⟩
 have z10 := K3.size
 unfold ref05_SameHeader_J1 at hm
 refine sw_cond rfl (fun c1 => ?_) (fun c1 => ?_)
 · replace hm := cnd_t c1 hm
   refine qs 1 rfl<|qm rfl<|qb ?_
   have X11 := (X9.kz K3)
   cases hm
   refine ⟨_, _, rfl, res_1 rfl (rv_tmp rfl), ?_⟩
   exact ⟨rfl, X11⟩
 replace hm := cnd_f c1 hm
 refine qu<|sw_seq<|qs 1 rfl<|qm rfl<|sd_done ?_
 refine sw_block ?_
 have X12 := (X9.kz K3)
 have B13 := ((hp0_0.gr Y1).kz K3)
 have B14 := ((hp0_2.gr Y1).kz K3)
 have B15 := ((hp1_0.gr Y1).kz K3)
 have B16 := ((hp1_2.gr Y1).kz K3)
 refine sw_loopD (α := Nat × Int) ([4, 5] ++ rg 44 18) (fun ⟨n2, a3⟩ => [(4, .bool false), (5, .int .i64 a3)]) (fun ⟨n2, a3⟩ wr => (fixN (ref05_SameHeader_L2 p0 p1) n2 a3 = some r) ∧ Kz [] w3 wr) (fun ⟨n2, a3⟩ => n2) ⟨FUEL, 0⟩ ?_ ?_ ?_
 · exact sbq
 · exact ⟨hm, Kz.refl _ _⟩
 clear hm; rintro ⟨n2, a3⟩ w4 ⟨hm, K4⟩
 have z17 := K4.size
 have hb := fix_succ hm; clear hm; obtain ⟨n2, rfl, hm⟩ := hb
 generalize hrec2 : fixN (ref05_SameHeader_L2 p0 p1) n2 = rec2 at hm
 unfold ref05_SameHeader_L2 at hm
 try dsimp only at hm
 refine sw_seq<|qs 5 rfl<|qm rfl<|qv rfl (vv_fieldAddr fa_48_0 rfl) ?_
 have B18 := (((Bw1.gr G2).kz K3).kz K4)
 refine qv rfl (vv_load1 (v := vp0_0) one_45 rfl B18 rfl) ?_
 have B19 := (B13.kz K4)
 refine qv rfl (vv_lenT (l := p0.Items) (c := TItem.cs) Tryz.underlying45 rfl B19)<|qv rfl (vv_lss (a := a3) (b := (p0.Items.length : Int)) rfl rfl)<|sd_done<|sw_cond rfl (fun c2 => ?_) (fun c2 => ?_)
 · replace hm := iT c2 hm
   refine qu<|sw_seq<|sw_block<|sw_seq<|dw [([])] [] (.leaf [(0,10),(1,10),(2,10),(3,10),(4,10),(5,10),(6,10),(7,10),(8,10),(9,10),(10,10)]) ?_
   intro w5 G5 zw5
   refine sdz_leaf<|dh 0 rfl rfl (fun w hS => vv_fieldAddr fa_48_0 rfl) ?_
   have B20 := (B18.gr G5)
   refine dh 0 rfl rfl (fun w hS => vv_load1 (v := vp0_0) one_45 rfl (Bx.kp B20 hS) rfl)<|dm 0 rfl rfl ?_
   obtain ⟨y4, hy4, hm⟩ := bnd hm
   have B21 := (B19.gr G5)
   refine dh 0 rfl rfl (fun w hS => vv_ixT (i := a3) Tryz.underlying45 (agg_133).siz rfl (Rd.kp B21 hS) rfl hy4)<|dh 0 rfl rfl (fun w hS => vv_elWT agg_133 rfl (Rd.kp B21 hS) hy4 (by first | rfl | omega))<|dh 0 rfl rfl (fun w hS => vv_fieldAddr fa_48_0 rfl) ?_
   have B22 := (((Bw2.kz K3).kz K4).gr G5)
   refine dh 0 rfl rfl (fun w hS => vv_load1 (v := vp1_0) one_45 rfl (Bx.kp B22 hS) rfl)<|dm 0 rfl rfl ?_
   obtain ⟨y5, hy5, hm⟩ := bnd hm
   have B23 := ((B15.kz K4).gr G5)
   refine dh 0 rfl rfl (fun w hS => vv_ixT (i := a3) Tryz.underlying45 (agg_133).siz rfl (Rd.kp B23 hS) rfl hy5)<|dh 0 rfl rfl (fun w hS => vv_elWT agg_133 rfl (Rd.kp B23 hS) hy5 (by first | rfl | omega))<|dh 0 rfl rfl (fun w hS => vv_neqS (cf := TItem.cs) (a := y4) (b := y5) eqt_133 rfl rfl rfl rfl (fun h => TItem.cs_inj h))<|sd_done<|sw_cond rfl (fun c3 => ?_) (fun c3 => ?_)
   · replace hm := iT c3 hm
     refine qs 1 rfl<|qm rfl<|sd_done<|sw_ret<|block_r<|then_r ?_
     refine then_r<|block_r<|then_r ?_
     have X24 := ((X12.kz K4).trans G5)
     cases hm
     refine ⟨_, _, rfl, res_1 rfl (rv_tmp rfl), ?_⟩
     exact ⟨rfl, X24⟩
   replace hm := iF c3 hm
   refine sw_skip<|block_n<|then_n<|qg 3 rfl<|qm rfl<|qv rfl (vv_add (k := .i64) (a := a3) (b := 1) rfl rfl)<|qm rfl ?_
   refine sd_nil ?_
   have K_25 : Kz [] w3 w5 := (K4.gr G5)
   subst hrec2
   exact ⟨rfl, ⟨n2, w64 (a3 + 1)⟩, sbq, ⟨hm, K_25⟩, Nat.lt_succ_self _⟩
 replace hm := iF c2 hm
 refine sw_exit<|then_x<|then_x<|block_x<|then_n<|sw_seq<|sw_seq ?_
 refine qg 1 rfl<|qm rfl<|sd_done<|sw_block ?_
 have X26 := (X12.kz K4)
 have B27 := (B14.kz K4)
 have B28 := (B15.kz K4)
 have B29 := (B16.kz K4)
 refine sw_loopD (α := Nat × Int) ([4, 6] ++ rg 62 18) (fun ⟨n3, a7⟩ => [(4, .bool false), (6, .int .i64 a7)]) (fun ⟨n3, a7⟩ wr => (fixN (ref05_SameHeader_L3 p0 p1) n3 a7 = some r) ∧ Kz [] w4 wr) (fun ⟨n3, a7⟩ => n3) ⟨FUEL, 0⟩ ?_ ?_ ?_
 · exact sbq
 · exact ⟨hm, Kz.refl _ _⟩
 clear hm; rintro ⟨n3, a7⟩ w6 ⟨hm, K6⟩
 have z30 := K6.size
 have hb := fix_succ hm; clear hm; obtain ⟨n3, rfl, hm⟩ := hb
 generalize hrec3 : fixN (ref05_SameHeader_L3 p0 p1) n3 = rec3 at hm
 unfold ref05_SameHeader_L3 at hm
 try dsimp only at hm
 refine sw_seq<|qs 5 rfl<|qm rfl<|qv rfl (vv_fieldAddr fa_48_2 rfl) ?_
 have B31 := (B18.kz K6)
 refine qv rfl (vv_load1 (v := vp0_2) one_46 rfl B31 rfl) ?_
 have B32 := (B27.kz K6)
 refine qv rfl (vv_lenT (l := p0.Points) (c := TPoint.cs) Tryz.underlying46 rfl B32)<|qv rfl (vv_lss (a := a7) (b := (p0.Points.length : Int)) rfl rfl)<|sd_done<|cnF rfl (fun c4 => ?_) (fun c4 => ?_)
 · replace hm := iF c4 hm
   refine sw_exit<|then_x<|then_x<|block_x<|then_n<|qs 1 rfl ?_
   refine qm rfl<|sd_done<|sw_ret ?_
   have X39 := (X26.kz K6)
   cases hm
   refine ⟨_, _, rfl, res_1 rfl (rv_tmp rfl), ?_⟩
   exact ⟨rfl, X39⟩
 replace hm := iT c4 hm
 refine qu<|sw_seq<|sw_block<|sw_seq<|dw [([])] [] (.leaf [(0,10),(1,10),(2,10),(3,10),(4,10),(5,10),(6,10),(7,10),(8,10),(9,10),(10,10)]) ?_
 intro w7 G7 zw7
 refine sdz_leaf<|dh 0 rfl rfl (fun w hS => vv_fieldAddr fa_48_2 rfl) ?_
 have B33 := (B31.gr G7)
 refine dh 0 rfl rfl (fun w hS => vv_load1 (v := vp0_2) one_46 rfl (Bx.kp B33 hS) rfl)<|dm 0 rfl rfl ?_
 obtain ⟨y8, hy8, hm⟩ := bnd hm
 have B34 := (B32.gr G7)
 refine dh 0 rfl rfl (fun w hS => vv_ixT (i := a7) Tryz.underlying46 (agg_31).siz rfl (Rd.kp B34 hS) rfl hy8)<|dh 0 rfl rfl (fun w hS => vv_elWT agg_31 rfl (Rd.kp B34 hS) hy8 (by first | rfl | omega))<|dh 0 rfl rfl (fun w hS => vv_fieldAddr fa_48_2 rfl) ?_
 have B35 := ((((Bw2.kz K3).kz K4).kz K6).gr G7)
 refine dh 0 rfl rfl (fun w hS => vv_load1 (v := vp1_2) one_46 rfl (Bx.kp B35 hS) rfl)<|dm 0 rfl rfl ?_
 obtain ⟨y9, hy9, hm⟩ := bnd hm
 have B36 := ((B29.kz K6).gr G7)
 refine dh 0 rfl rfl (fun w hS => vv_ixT (i := a7) Tryz.underlying46 (agg_31).siz rfl (Rd.kp B36 hS) rfl hy9)<|dh 0 rfl rfl (fun w hS => vv_elWT agg_31 rfl (Rd.kp B36 hS) hy9 (by first | rfl | omega))<|dh 0 rfl rfl (fun w hS => vv_neqS (cf := TPoint.cs) (a := y8) (b := y9) eqt_31 rfl rfl rfl rfl (fun h => TPoint.cs_inj h))<|sd_done<|sw_cond rfl (fun c5 => ?_) (fun c5 => ?_)
 · replace hm := iT c5 hm
   refine qs 1 rfl<|qm rfl<|sd_done<|sw_ret<|block_r<|then_r ?_
   refine then_r<|block_r<|then_r ?_
   have X37 := ((X26.kz K6).trans G7)
   cases hm
   refine ⟨_, _, rfl, res_1 rfl (rv_tmp rfl), ?_⟩
   exact ⟨rfl, X37⟩
 replace hm := iF c5 hm
 refine sw_skip<|block_n<|then_n<|qg 3 rfl<|qm rfl<|qv rfl (vv_add (k := .i64) (a := a7) (b := 1) rfl rfl)<|qm rfl ?_
 refine sd_nil ?_
 have K_38 : Kz [] w4 w7 := (K6.gr G7)
 subst hrec3
 exact ⟨rfl, ⟨n3, w64 (a7 + 1)⟩, sbq, ⟨hm, K_38⟩, Nat.lt_succ_self _⟩
theorem ref05_Great_w {p0 p1 vp0_1 zp0_1 gp0_1 op0_1 vp1_2 zp1_2 gp1_2 op1_2 vp1_4 zp1_4 gp1_4 op1_4 vp1_39 zp1_39 gp1_39 op1_39 r} (hm : ref05_Great p0 p1 = some r) {w : World} (hp0_1 : Rd w zp0_1 gp0_1 op0_1 18 vp0_1 (p0.Labels.map TLabel.cs)) (hp1_2 : Rd w zp1_2 gp1_2 op1_2 18 vp1_2 (p1.Head.Items.map TItem.cs)) (hp1_4 : Rd w zp1_4 gp1_4 op1_4 2 vp1_4 (p1.Head.Points.map TPoint.cs)) (hp1_39 : Rd w zp1_39 gp1_39 op1_39 1 vp1_39 (p1.Data.map bvc)) :
    Calls Tryz.prog 22 [.agg (TSecret.cs p0 vp0_1).toArray, .agg (TPacket.cs p1 vp1_2 vp1_4 vp1_39).toArray].toArray w fun e w' => ∃ v, e = .returned v ∧ (v = .bool r ∧ Gr w w') := by
 have lt1 := hp0_1.lth
 have lt2 := hp1_2.lth
 have lt3 := hp1_4.lth
 have lt4 := hp1_39.lth
 unfold ref05_Great at hm
 refine calls_of_sw 29 Tryz.func22 rfl rfl rfl<|qs 3 rfl<|qe rfl (ev_box (cs := TSecret.cs p0 vp0_1) rfl rfl) ?_
 rintro _ w1 ⟨b1, rfl, hbw1, Bw1, G1⟩
 have z5 := G1.size
 have lt6 := Bw1.lt
 refine qe rfl (ev_box (cs := TPacket.cs p1 vp1_2 vp1_4 vp1_39) rfl rfl) ?_
 rintro _ w2 ⟨b2, rfl, hbw2, Bw2, G2⟩
 have z7 := G2.size
 have lt8 := Bw2.lt
 refine qm rfl<|qd 25 rfl<|qv rfl (vv_fieldAddr fa_33_1 rfl) ?_
 have B9 := (Bw1.gr G2)
 refine qv rfl (vv_load1 (v := vp0_1) one_29 rfl B9 rfl) ?_
 have Y1 := Gr.trans G1 G2
 have B10 := (hp0_1.gr Y1)
 refine qv rfl (vv_lenT (l := p0.Labels) (c := TLabel.cs) Tryz.underlying29 rfl B10)<|qv rfl (vv_gtr (a := (p0.Labels.length : Int)) (b := 100) rfl rfl)<|qp rfl (vv_move rfl) (fun c1 => ?_) (fun c1 => ?_)
 · replace hm := iT c1 hm
   refine qk rfl<|qk rfl<|qk rfl<|qk rfl<|qk rfl<|qm rfl<|qm rfl ?_
   refine qk rfl<|qk rfl<|qk rfl<|qk rfl<|qk rfl<|qm rfl<|qm rfl ?_
   refine qk rfl<|qk rfl<|qk rfl<|qk rfl<|qm rfl<|qm rfl<|sd_done ?_
   refine sw_ret ?_
   have X11 := ((Gr.refl w).trans Y1)
   cases hm
   refine ⟨_, _, rfl, res_1 rfl (rv_tmp rfl), ?_⟩
   exact ⟨rfl, X11⟩
 replace hm := iF c1 hm
 refine qv rfl (vv_fieldAddr fa_52_2 rfl)<|qv rfl (vv_fieldAddr fa_48_0 rfl)<|qv rfl (vv_load1 (v := vp1_2) one_45 rfl Bw2 rfl) ?_
 have B12 := (hp1_2.gr Y1)
 refine qv rfl (vv_lenT (l := p1.Head.Items) (c := TItem.cs) Tryz.underlying45 rfl B12)<|qv rfl (vv_gtr (a := (p1.Head.Items.length : Int)) (b := 100) rfl rfl)<|qm rfl<|qp rfl (vv_move rfl) (fun c2 => ?_) (fun c2 => ?_)
 · replace hm := iT c2 hm
   refine qk rfl<|qk rfl<|qk rfl<|qk rfl<|qk rfl<|qm rfl<|qm rfl ?_
   refine qk rfl<|qk rfl<|qk rfl<|qk rfl<|qm rfl<|qm rfl<|sd_done ?_
   refine sw_ret ?_
   have X13 := ((Gr.refl w).trans Y1)
   cases hm
   refine ⟨_, _, rfl, res_1 rfl (rv_tmp rfl), ?_⟩
   exact ⟨rfl, X13⟩
 replace hm := iF c2 hm
 refine qv rfl (vv_fieldAddr fa_52_2 rfl)<|qv rfl (vv_fieldAddr fa_48_2 rfl)<|qv rfl (vv_load1 (v := vp1_4) one_46 rfl Bw2 rfl) ?_
 have B14 := (hp1_4.gr Y1)
 refine qv rfl (vv_lenT (l := p1.Head.Points) (c := TPoint.cs) Tryz.underlying46 rfl B14)<|qv rfl (vv_gtr (a := (p1.Head.Points.length : Int)) (b := 50) rfl rfl)<|qm rfl<|qp rfl (vv_move rfl) (fun c3 => ?_) (fun c3 => ?_)
 · replace hm := iT c3 hm
   refine qk rfl<|qk rfl<|qk rfl<|qk rfl<|qm rfl<|qm rfl<|sd_done ?_
   refine sw_ret ?_
   have X15 := ((Gr.refl w).trans Y1)
   cases hm
   refine ⟨_, _, rfl, res_1 rfl (rv_tmp rfl), ?_⟩
   exact ⟨rfl, X15⟩
 replace hm := iF c3 hm
 refine qv rfl (vv_fieldAddr fa_52_5 rfl)<|qv rfl (vv_load1 (v := vp1_39) one_50 rfl Bw2 rfl) ?_
 have B16 := (hp1_39.gr Y1)
 refine qv rfl (vv_lenT (l := p1.Data) (c := bvc) Tryz.underlying50 rfl B16)<|qv rfl (vv_gtr (a := (p1.Data.length : Int)) (b := 1000) rfl rfl)<|qm rfl<|qm rfl<|sd_done<|sw_ret ?_
 have X17 := ((Gr.refl w).trans Y1)
 cases hm
 refine ⟨_, _, rfl, res_1 rfl (rv_tmp rfl), ?_⟩
 exact ⟨rfl, X17⟩
end Go.Proofs.YtjdffpglgkefmaaGreat.Mx
