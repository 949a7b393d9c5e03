/- Walks that follow mirrors: Bo. Printed by mx.py. -/
import Derived.Test.YtopkalcefepilaaGd
import Derived.Test.YtopkalcefepilaaZd
set_option linter.unusedVariables false
set_option linter.unusedSimpArgs false
set_option maxRecDepth 100000
set_option maxHeartbeats 2000000
namespace Go.Proofs.Ytopkalcefepilaa.Mx
open Go Go.RowKit Go.Sx
theorem en_33 : En Try.prog 33 := fun _ _ => by kernel_rfl
theorem en_35 : En Try.prog 35 := fun _ _ => by kernel_rfl
theorem law10_PlanBounds_w {p0 p1 p2 vp1 zp1 gp1 op1 r} (hm : law10_PlanBounds p0 p1 p2 = some r) {w : World} (hp1 : Rd w zp1 gp1 op1 1 vp1 (p1.map ic)) :
    Calls Try.prog 9 [.agg (TScheme.cs p0).toArray, vp1, .int .i64 p2].toArray w fun e w' => ∃ v, e = .returned v ∧ (v = .bool r ∧ Gr w w') := by
 have lt1 := hp1.lth
 unfold law10_PlanBounds at hm
 refine calls_of_sw 57 Try.func9 rfl rfl rfl<|qs 2 rfl<|qe rfl (ev_box (cs := TScheme.cs p0) rfl rfl) ?_
 rintro _ w1 ⟨b1, rfl, hbw1, Bw1, G1⟩
 have z2 := G1.size
 have lt3 := Bw1.lt
 refine qm rfl<|qd 2 rfl ?_
 obtain ⟨x1, hx1, hm⟩ := bnd hm
 refine qe rfl (eC en_33 rfl (law10_alive_w hx1)) ?_
 rintro _ w2 ⟨rfl, G2⟩
 have z4 := G2.size
 refine qm rfl<|sd_done<|sw_seq ?_
 have X5 := (((Gr.refl w).trans G1).trans G2)
 refine qj (β := Bool) (rg 13 13) (fun a2 => [(25, .bool a2)]) (fun a2 wr => (law10_PlanBounds_J1 p0 p1 p2 x1 a2 = some r) ∧ Kz [] w2 wr) ?_ ?_
 · refine qg 13 rfl<|qm rfl ?_
   have B23 := ((hp1.gr G1).gr G2)
   refine qv rfl (vv_lenT (l := p1) (c := ic) Try.underlying32 rfl B23)<|qv rfl (vv_gtr (a := (p1.length : Int)) (b := 100) rfl rfl)<|qp rfl (vv_move rfl) (fun c6 => ?_) (fun c6 => ?_)
   · replace hm := iT c6 hm
     refine qk rfl<|qk rfl<|qk rfl<|qk rfl<|qm rfl<|qm rfl<|qk rfl ?_
     refine qk rfl<|qm rfl<|sd_nil ?_
     exact ⟨rfl, true, sbq, hm, kz0⟩
   replace hm := iF c6 hm
   refine qm rfl<|qv rfl (vv_lenT (l := p1) (c := ic) Try.underlying32 rfl B23)<|qm rfl<|qv rfl (vv_gtr (a := (p1.length : Int)) (b := p2) rfl rfl)<|qm rfl<|qp rfl (vv_move rfl) (fun c7 => ?_) (fun c7 => ?_)
   · replace hm := iT c7 hm
     refine qk rfl<|qk rfl<|qm rfl<|sd_nil ?_
     exact ⟨rfl, true, sbq, hm, kz0⟩
   replace hm := iF c7 hm
   refine qm rfl<|qv rfl (vv_not rfl)<|qm rfl<|sd_nil ?_
   exact ⟨rfl, (!x1), sbq, hm, kz0⟩
 clear hm; rintro a2 w3 ⟨hm, K3⟩
 have z6 := K3.size
 unfold law10_PlanBounds_J1 at hm
 refine sw_cond rfl (fun c1 => ?_) (fun c1 => ?_)
 · replace hm := cnd_t c1 hm
   refine qs 2 rfl<|qm rfl<|qm rfl<|sd_done<|sw_ret<|then_r ?_
   have X7 := (X5.kz K3)
   cases hm
   refine ⟨_, _, rfl, res_1 rfl (rv_tmp rfl), ?_⟩
   exact ⟨rfl, X7⟩
 replace hm := cnd_f c1 hm
 refine qu<|qs 8 rfl ?_
 have B8 := ((Bw1.gr G2).kz K3)
 refine qv rfl (vv_loadW agg_26 rfl B8 rfl)<|qm rfl ?_
 have B9 := (((hp1.gr G1).gr G2).kz K3)
 obtain ⟨x3, hx3, hm⟩ := bnd hm
 refine qe rfl (eC en_35 rfl (cover_Cover_w hx3 B9)) ?_
 rintro _ w4 ⟨u4_r0_s, z4_r0_s, g4_r0_s, rfl, O4_r0_s, f4_r0_s, G4⟩
 have z10 := G4.size
 have lt11 := O4_r0_s.lth
 refine qm rfl<|qm rfl<|qm rfl<|qm rfl<|qm rfl<|sd_done<|sw_seq ?_
 refine qg 8 rfl ?_
 have B12 := (B8.gr G4)
 refine qv rfl (vv_loadW agg_26 rfl B12 rfl)<|qm rfl ?_
 obtain ⟨x4, hx4, hm⟩ := bnd hm
 refine qe rfl (eC en_14 rfl (plan_Worst_w hx4)) ?_
 rintro _ w5 ⟨rfl, G5⟩
 have z13 := G5.size
 refine qm rfl<|qm rfl<|qm rfl<|qm rfl<|qm rfl<|sd_done<|sw_seq ?_
 have X14 := (((X5.kz K3).trans G4).trans G5)
 refine qj (β := Bool) (rg 39 6) (fun a5 => [(44, .bool a5)]) (fun a5 wr => (law10_PlanBounds_J2 x1 x3 x4 a5 = some r) ∧ Kz [] w5 wr) ?_ ?_
 · refine qg 6 rfl<|qm rfl<|qv rfl (vv_neq (a := x3.2) (b := 0) rfl rfl)<|qp rfl (vv_move rfl) (fun c5 => ?_) (fun c5 => ?_)
   · replace hm := iT c5 hm
     refine qk rfl<|qk rfl<|qm rfl<|sd_nil ?_
     exact ⟨rfl, true, sbq, hm, kz0⟩
   replace hm := iF c5 hm
   refine qm rfl<|qv rfl (vv_neq (a := x4.2) (b := 0) rfl rfl)<|qm rfl<|sd_nil ?_
   exact ⟨rfl, (decide (x4.2 ≠ 0)), sbq, hm, kz0⟩
 clear hm; rintro a5 w6 ⟨hm, K6⟩
 have z15 := K6.size
 unfold law10_PlanBounds_J2 at hm
 refine sw_cond rfl (fun c2 => ?_) (fun c2 => ?_)
 · replace hm := cnd_t c2 hm
   refine qs 2 rfl<|qm rfl<|qm rfl<|sd_done<|sw_ret<|then_r ?_
   have X16 := (X14.kz K6)
   cases hm
   refine ⟨_, _, rfl, res_1 rfl (rv_tmp rfl), ?_⟩
   exact ⟨rfl, X16⟩
 replace hm := cnd_f c2 hm
 refine qu<|qs 12 rfl<|qm rfl<|qpF rfl (vv_move rfl) (fun c3 => ?_) (fun c3 => ?_)
 · replace hm := cnd_f c3 hm
   refine qk rfl<|qk rfl<|qk rfl<|qk rfl<|qm rfl<|qm rfl<|qk rfl ?_
   refine qk rfl<|qm rfl<|qm rfl<|sd_done<|sw_ret ?_
   have X20 := (X14.kz K6)
   cases hm
   refine ⟨_, _, rfl, res_1 rfl (rv_tmp rfl), ?_⟩
   exact ⟨rfl, X20⟩
 replace hm := cnd_t c3 hm
 refine qm rfl ?_
 have B17 := ((O4_r0_s.gr G5).kz K6)
 refine qv rfl (vv_lenT (l := x3.1) (c := TSubset.cs) Try.underlying74 rfl (Own.rd B17))<|qm rfl<|qv rfl (vv_leq (a := (x3.1.length : Int)) (b := x4.1) rfl rfl)<|qm rfl<|qp rfl (vv_move rfl) (fun c4 => ?_) (fun c4 => ?_)
 · replace hm := iT c4 hm
   refine qm rfl<|qv rfl (vv_geq (a := x4.1) (b := 1) rfl rfl)<|qm rfl<|qm rfl<|sd_done<|sw_ret ?_
   have X18 := (X14.kz K6)
   cases hm
   refine ⟨_, _, rfl, res_1 rfl (rv_tmp rfl), ?_⟩
   exact ⟨rfl, X18⟩
 replace hm := iF c4 hm
 refine qk rfl<|qk rfl<|qm rfl<|qm rfl<|sd_done<|sw_ret ?_
 have X19 := (X14.kz K6)
 cases hm
 refine ⟨_, _, rfl, res_1 rfl (rv_tmp rfl), ?_⟩
 exact ⟨rfl, X19⟩
end Go.Proofs.Ytopkalcefepilaa.Mx
