/- Walks that follow mirrors: Xg. Printed by mx.py. -/
import Derived.Test.YtjdffpglgkefmaaGreatXf
import Derived.Test.YtjdffpglgkefmaaGreatZd
set_option linter.unusedVariables false
set_option linter.unusedSimpArgs false
set_option maxRecDepth 100000
set_option maxHeartbeats 2000000
namespace Go.Proofs.YtjdffpglgkefmaaGreat.Mx
open Go Go.RowKit Go.Sx
theorem ref05_ValidAir_w {p0 r} (hm : ref05_ValidAir p0 = some r) {w : World} :
    Calls Tryz.prog 43 [.agg (TAir.cs p0).toArray].toArray w fun e w' => ∃ v, e = .returned v ∧ (v = .bool r ∧ Gr w w') := by
 unfold ref05_ValidAir at hm
 refine calls_of_sw 84 Tryz.func43 rfl rfl rfl<|qs 2 rfl<|qe rfl (ev_box (cs := TAir.cs p0) rfl rfl) ?_
 rintro _ w1 ⟨b1, rfl, hbw1, Bw1, G1⟩
 have z1 := G1.size
 have lt2 := Bw1.lt
 refine qm rfl<|sd_done<|sw_seq ?_
 have X3 := ((Gr.refl w).trans G1)
 refine qj (β := Bool) (rg 3 31) (fun a1 => [(33, .bool a1)]) (fun a1 wr => (ref05_ValidAir_J1 p0 a1 = some r) ∧ Kz [] w1 wr) ?_ ?_
 · refine qg 31 rfl<|qv rfl (vv_fieldAddr fa_65_1 rfl)<|qv rfl (vv_load1 (v := .int .i64 p0.Word) one_3 rfl Bw1 rfl)<|qv rfl (vv_lss (a := p0.Word) (b := 1) rfl rfl)<|qp rfl (vv_move rfl) (fun c9 => ?_) (fun c9 => ?_)
   · replace hm := iT c9 hm
     refine qk rfl<|qk rfl<|qk rfl<|qm rfl<|qm rfl<|qk rfl<|qk rfl<|qk rfl<|qk rfl<|qk rfl<|qm rfl<|qm rfl<|qk rfl ?_
     refine qk rfl<|qk rfl<|qk rfl<|qk rfl<|qk rfl<|qm rfl<|qm rfl<|qk rfl<|qk rfl<|qk rfl<|qk rfl<|qk rfl<|qk rfl ?_
     refine qm rfl<|sd_nil ?_
     exact ⟨rfl, true, sbq, hm, kz0⟩
   replace hm := iF c9 hm
   refine qv rfl (vv_fieldAddr fa_65_1 rfl)<|qv rfl (vv_load1 (v := .int .i64 p0.Word) one_3 rfl Bw1 rfl)<|qv rfl (vv_gtr (a := p0.Word) (b := 1000) rfl rfl)<|qm rfl<|qp rfl (vv_move rfl) (fun c10 => ?_) (fun c10 => ?_)
   · replace hm := iT c10 hm
     refine qk rfl<|qk rfl<|qk rfl<|qk rfl<|qk rfl<|qm rfl<|qm rfl<|qk rfl<|qk rfl<|qk rfl<|qk rfl<|qk rfl<|qk rfl ?_
     refine qm rfl<|qm rfl<|qk rfl<|qk rfl<|qk rfl<|qk rfl<|qk rfl<|qk rfl<|qm rfl<|sd_nil ?_
     exact ⟨rfl, true, sbq, hm, kz0⟩
   replace hm := iF c10 hm
   refine qv rfl (vv_fieldAddr fa_65_0 rfl)<|qv rfl (vv_load1 (v := .int .i64 p0.Epoch) one_3 rfl Bw1 rfl)<|qv rfl (vv_fieldAddr fa_65_1 rfl)<|qv rfl (vv_load1 (v := .int .i64 p0.Word) one_3 rfl Bw1 rfl)<|qv rfl (vv_lss (a := p0.Epoch) (b := p0.Word) rfl rfl)<|qm rfl<|qp rfl (vv_move rfl) (fun c11 => ?_) (fun c11 => ?_)
   · replace hm := iT c11 hm
     refine qk rfl<|qk rfl<|qk rfl<|qk rfl<|qk rfl<|qk rfl<|qm rfl<|qm rfl<|qk rfl<|qk rfl<|qk rfl<|qk rfl<|qk rfl ?_
     refine qk rfl<|qm rfl<|sd_nil ?_
     exact ⟨rfl, true, sbq, hm, kz0⟩
   replace hm := iF c11 hm
   refine qv rfl (vv_fieldAddr fa_65_0 rfl)<|qv rfl (vv_load1 (v := .int .i64 p0.Epoch) one_3 rfl Bw1 rfl)<|qv rfl (vv_fieldAddr fa_65_1 rfl)<|qv rfl (vv_load1 (v := .int .i64 p0.Word) one_3 rfl Bw1 rfl)<|qv rfl (vv_mul (k := .i64) (a := 1000) (b := p0.Word) rfl rfl)<|qv rfl (vv_gtr (a := p0.Epoch) (b := w64 (1000 * p0.Word)) rfl rfl)<|qm rfl<|qp rfl (vv_move rfl) (fun c12 => ?_) (fun c12 => ?_)
   · replace hm := iT c12 hm
     refine qk rfl<|qk rfl<|qk rfl<|qk rfl<|qk rfl<|qk rfl<|qm rfl<|sd_nil ?_
     exact ⟨rfl, true, sbq, hm, kz0⟩
   replace hm := iF c12 hm
   refine qv rfl (vv_fieldAddr fa_65_0 rfl)<|qv rfl (vv_load1 (v := .int .i64 p0.Epoch) one_3 rfl Bw1 rfl)<|qv rfl (vv_fieldAddr fa_65_1 rfl)<|qv rfl (vv_load1 (v := .int .i64 p0.Word) one_3 rfl Bw1 rfl) ?_
   obtain ⟨x3, hx3, hm⟩ := bnd hm
   refine qv rfl (vv_remI (a := p0.Epoch) (b := p0.Word) rfl rfl hx3)<|qv rfl (vv_neq (a := x3) (b := 0) rfl rfl)<|qm rfl<|sd_nil ?_
   exact ⟨rfl, (decide (x3 ≠ 0)), sbq, hm, kz0⟩
 clear hm; rintro a1 w2 ⟨hm, K2⟩
 have z4 := K2.size
 unfold ref05_ValidAir_J1 at hm
 refine sw_cond rfl (fun c1 => ?_) (fun c1 => ?_)
 · replace hm := cnd_t c1 hm
   refine qs 1 rfl<|qm rfl<|qb ?_
   have X5 := (X3.kz K2)
   cases hm
   refine ⟨_, _, rfl, res_1 rfl (rv_tmp rfl), ?_⟩
   exact ⟨rfl, X5⟩
 replace hm := cnd_f c1 hm
 refine qu<|sw_seq ?_
 have X6 := (X3.kz K2)
 refine qj (β := Bool) (rg 34 30) (fun a2 => [(63, .bool a2)]) (fun a2 wr => (ref05_ValidAir_J2 p0 a2 = some r) ∧ Kz [] w2 wr) ?_ ?_
 · refine qg 30 rfl<|qv rfl (vv_fieldAddr fa_65_2 rfl) ?_
   have B12 := (Bw1.kz K2)
   refine qv rfl (vv_load1 (v := .int .i64 p0.Early) one_3 rfl B12 rfl)<|qv rfl (vv_lss (a := p0.Early) (b := 0) rfl rfl)<|qp rfl (vv_move rfl) (fun c4 => ?_) (fun c4 => ?_)
   · replace hm := iT c4 hm
     refine qk rfl<|qk rfl<|qk rfl<|qm rfl<|qm rfl<|qk rfl<|qk rfl<|qk rfl<|qm rfl<|qm rfl<|qk rfl<|qk rfl<|qk rfl ?_
     refine qk rfl<|qk rfl<|qm rfl<|qm rfl<|qk rfl<|qk rfl<|qk rfl<|qm rfl<|qm rfl<|qk rfl<|qk rfl<|qk rfl<|qm rfl ?_
     refine sd_nil ?_
     exact ⟨rfl, true, sbq, hm, kz0⟩
   replace hm := iF c4 hm
   refine qv rfl (vv_fieldAddr fa_65_3 rfl)<|qv rfl (vv_load1 (v := .int .i64 p0.Drift) one_3 rfl B12 rfl)<|qv rfl (vv_lss (a := p0.Drift) (b := 0) rfl rfl)<|qm rfl<|qp rfl (vv_move rfl) (fun c5 => ?_) (fun c5 => ?_)
   · replace hm := iT c5 hm
     refine qk rfl<|qk rfl<|qk rfl<|qm rfl<|qm rfl<|qk rfl<|qk rfl<|qk rfl<|qk rfl<|qk rfl<|qm rfl<|qm rfl<|qk rfl ?_
     refine qk rfl<|qk rfl<|qm rfl<|qm rfl<|qk rfl<|qk rfl<|qk rfl<|qm rfl<|sd_nil ?_
     exact ⟨rfl, true, sbq, hm, kz0⟩
   replace hm := iF c5 hm
   refine qv rfl (vv_fieldAddr fa_65_4 rfl)<|qv rfl (vv_load1 (v := .int .i64 p0.Delay) one_3 rfl B12 rfl)<|qv rfl (vv_lss (a := p0.Delay) (b := 0) rfl rfl)<|qm rfl<|qp rfl (vv_move rfl) (fun c6 => ?_) (fun c6 => ?_)
   · replace hm := iT c6 hm
     refine qk rfl<|qk rfl<|qk rfl<|qk rfl<|qk rfl<|qm rfl<|qm rfl<|qk rfl<|qk rfl<|qk rfl<|qm rfl<|qm rfl<|qk rfl ?_
     refine qk rfl<|qk rfl<|qm rfl<|sd_nil ?_
     exact ⟨rfl, true, sbq, hm, kz0⟩
   replace hm := iF c6 hm
   refine qv rfl (vv_fieldAddr fa_65_2 rfl)<|qv rfl (vv_load1 (v := .int .i64 p0.Early) one_3 rfl B12 rfl)<|qv rfl (vv_fieldAddr fa_65_0 rfl)<|qv rfl (vv_load1 (v := .int .i64 p0.Epoch) one_3 rfl B12 rfl)<|qv rfl (vv_gtr (a := p0.Early) (b := p0.Epoch) rfl rfl)<|qm rfl<|qp rfl (vv_move rfl) (fun c7 => ?_) (fun c7 => ?_)
   · replace hm := iT c7 hm
     refine qk rfl<|qk rfl<|qk rfl<|qm rfl<|qm rfl<|qk rfl<|qk rfl<|qk rfl<|qm rfl<|sd_nil ?_
     exact ⟨rfl, true, sbq, hm, kz0⟩
   replace hm := iF c7 hm
   refine qv rfl (vv_fieldAddr fa_65_3 rfl)<|qv rfl (vv_load1 (v := .int .i64 p0.Drift) one_3 rfl B12 rfl)<|qv rfl (vv_gtr (a := p0.Drift) (b := 3000) rfl rfl)<|qm rfl<|qp rfl (vv_move rfl) (fun c8 => ?_) (fun c8 => ?_)
   · replace hm := iT c8 hm
     refine qk rfl<|qk rfl<|qk rfl<|qm rfl<|sd_nil ?_
     exact ⟨rfl, true, sbq, hm, kz0⟩
   replace hm := iF c8 hm
   refine qv rfl (vv_fieldAddr fa_65_4 rfl)<|qv rfl (vv_load1 (v := .int .i64 p0.Delay) one_3 rfl B12 rfl)<|qv rfl (vv_gtr (a := p0.Delay) (b := 3000) rfl rfl)<|qm rfl<|sd_nil ?_
   exact ⟨rfl, (decide ((3000 : Int) < p0.Delay)), sbq, hm, kz0⟩
 clear hm; rintro a2 w3 ⟨hm, K3⟩
 have z7 := K3.size
 unfold ref05_ValidAir_J2 at hm
 refine sw_cond rfl (fun c2 => ?_) (fun c2 => ?_)
 · replace hm := cnd_t c2 hm
   refine qs 1 rfl<|qm rfl<|qb ?_
   have X8 := (X6.kz K3)
   cases hm
   refine ⟨_, _, rfl, res_1 rfl (rv_tmp rfl), ?_⟩
   exact ⟨rfl, X8⟩
 replace hm := cnd_f c2 hm
 refine qu<|qs 21 rfl<|qv rfl (vv_fieldAddr fa_65_3 rfl) ?_
 have B9 := ((Bw1.kz K2).kz K3)
 refine qv rfl (vv_load1 (v := .int .i64 p0.Drift) one_3 rfl B9 rfl)<|qv rfl (vv_mul (k := .i64) (a := 2) (b := p0.Drift) rfl rfl)<|qv rfl (vv_fieldAddr fa_65_4 rfl)<|qv rfl (vv_load1 (v := .int .i64 p0.Delay) one_3 rfl B9 rfl)<|qv rfl (vv_add (k := .i64) (a := w64 (2 * p0.Drift)) (b := p0.Delay) rfl rfl)<|qv rfl (vv_fieldAddr fa_65_1 rfl)<|qv rfl (vv_load1 (v := .int .i64 p0.Word) one_3 rfl B9 rfl)<|qv rfl (vv_mul (k := .i64) (a := 3) (b := p0.Word) rfl rfl)<|qv rfl (vv_lss (a := w64 ((w64 (2 * p0.Drift)) + p0.Delay)) (b := w64 (3 * p0.Word)) rfl rfl)<|qpF rfl (vv_move rfl) (fun c3 => ?_) (fun c3 => ?_)
 · replace hm := iF c3 hm
   refine qk rfl<|qk rfl<|qk rfl<|qk rfl<|qk rfl<|qk rfl<|qk rfl<|qk rfl<|qm rfl<|qm rfl<|sd_done<|sw_ret ?_
   have X11 := (X6.kz K3)
   cases hm
   refine ⟨_, _, rfl, res_1 rfl (rv_tmp rfl), ?_⟩
   exact ⟨rfl, X11⟩
 replace hm := iT c3 hm
 refine qv rfl (vv_fieldAddr fa_65_2 rfl)<|qv rfl (vv_load1 (v := .int .i64 p0.Early) one_3 rfl B9 rfl)<|qv rfl (vv_fieldAddr fa_65_4 rfl)<|qv rfl (vv_load1 (v := .int .i64 p0.Delay) one_3 rfl B9 rfl)<|qv rfl (vv_add (k := .i64) (a := p0.Early) (b := p0.Delay) rfl rfl)<|qv rfl (vv_fieldAddr fa_65_0 rfl)<|qv rfl (vv_load1 (v := .int .i64 p0.Epoch) one_3 rfl B9 rfl)<|qv rfl (vv_leq (a := w64 (p0.Early + p0.Delay)) (b := p0.Epoch) rfl rfl)<|qm rfl<|qm rfl<|sd_done<|sw_ret ?_
 have X10 := (X6.kz K3)
 cases hm
 refine ⟨_, _, rfl, res_1 rfl (rv_tmp rfl), ?_⟩
 exact ⟨rfl, X10⟩
end Go.Proofs.YtjdffpglgkefmaaGreat.Mx
