/- Walks that follow mirrors: Wo. Printed by mx.py. -/
import Derived.Test.YtopkalcefepilaaGw
import Derived.Test.YtopkalcefepilaaZd
set_option linter.unusedVariables false
set_option linter.unusedSimpArgs false
set_option maxRecDepth 100000
set_option maxHeartbeats 2000000
namespace Go.Proofs.Ytopkalcefepilaa.Mx
open Go Go.RowKit Go.Sx
theorem en_15 : En Try.prog 15 := fun _ _ => by kernel_rfl
theorem en_17 : En Try.prog 17 := fun _ _ => by kernel_rfl
theorem law10_PlanWorsts_w {p0 p1 r} (hm : law10_PlanWorsts p0 p1 = some r) {w : World} :
    Calls Try.prog 3 [.agg (TScheme.cs p0).toArray, .int .i64 p1].toArray w fun e w' => ∃ v, e = .returned v ∧ (v = .bool r ∧ Gr w w') := by
 unfold law10_PlanWorsts at hm
 refine calls_of_sw 55 Try.func3 rfl rfl rfl<|qs 2 rfl<|qe rfl (ev_box (cs := TScheme.cs p0) rfl rfl) ?_
 rintro _ w1 ⟨b1, rfl, hbw1, Bw1, G1⟩
 have z1 := G1.size
 have lt2 := Bw1.lt
 refine qm rfl<|qd 8 rfl<|qv rfl (vv_loadW agg_26 rfl Bw1 rfl)<|qm rfl ?_
 obtain ⟨x1, hx1, hm⟩ := bnd hm
 refine qe rfl (eC en_14 rfl (plan_Worst_w hx1)) ?_
 rintro _ w2 ⟨rfl, G2⟩
 have z3 := G2.size
 refine qm rfl<|qm rfl<|qm rfl<|qm rfl<|qm rfl<|sd_done<|sw_seq ?_
 refine qg 8 rfl ?_
 have B4 := (Bw1.gr G2)
 refine qv rfl (vv_loadW agg_26 rfl B4 rfl)<|qm rfl ?_
 obtain ⟨x2, hx2, hm⟩ := bnd hm
 refine qe rfl (eC en_15 rfl (ref10_Worst_w hx2)) ?_
 rintro _ w3 ⟨rfl, G3⟩
 have z5 := G3.size
 refine qm rfl<|qm rfl<|qm rfl<|qm rfl<|qm rfl<|sd_done<|sw_seq ?_
 refine qg 8 rfl ?_
 have B6 := (B4.gr G3)
 refine qv rfl (vv_loadW agg_26 rfl B6 rfl)<|qm rfl ?_
 obtain ⟨x3, hx3, hm⟩ := bnd hm
 refine qe rfl (eC en_16 rfl (plan_Witness_w hx3)) ?_
 rintro _ w4 ⟨u4_r0_s, z4_r0_s, g4_r0_s, rfl, O4_r0_s, f4_r0_s, G4⟩
 have z7 := G4.size
 have lt8 := O4_r0_s.lth
 refine qm rfl<|qm rfl<|qm rfl<|qm rfl<|qm rfl<|sd_done<|sw_seq ?_
 refine qg 8 rfl ?_
 have B9 := (B6.gr G4)
 refine qv rfl (vv_loadW agg_26 rfl B9 rfl)<|qm rfl ?_
 obtain ⟨x4, hx4, hm⟩ := bnd hm
 refine qe rfl (eC en_17 rfl (ref10_Witness_w hx4)) ?_
 rintro _ w5 ⟨u5_r0_s, z5_r0_s, g5_r0_s, rfl, O5_r0_s, f5_r0_s, G5⟩
 have z10 := G5.size
 have lt11 := O5_r0_s.lth
 refine qm rfl<|qm rfl<|qm rfl<|qm rfl<|qm rfl<|sd_done<|sw_seq ?_
 refine qg 19 rfl<|qm rfl<|qm rfl<|qv rfl (vv_eql (a := x1.1) (b := x2.1) rfl rfl)<|qpF rfl (vv_move rfl) (fun c1 => ?_) (fun c1 => ?_)
 · replace hm := iF c1 hm
   refine qk rfl<|qk rfl<|qk rfl<|qm rfl<|qm rfl<|qk rfl<|qk rfl ?_
   refine qk rfl<|qm rfl<|qm rfl<|qk rfl<|qk rfl<|qk rfl<|qm rfl ?_
   refine qm rfl<|sd_done<|sw_ret ?_
   have Y1 := Gr.trans (Gr.trans (Gr.trans (Gr.trans G1 G2) G3) G4) G5
   have X17 := ((Gr.refl w).trans Y1)
   cases hm
   refine ⟨_, _, rfl, res_1 rfl (rv_tmp rfl), ?_⟩
   exact ⟨rfl, X17⟩
 replace hm := iT c1 hm
 refine qm rfl<|qm rfl<|qv rfl (vv_eql (a := x1.2) (b := x2.2) rfl rfl)<|qm rfl<|qpF rfl (vv_move rfl) (fun c2 => ?_) (fun c2 => ?_)
 · replace hm := iF c2 hm
   refine qk rfl<|qk rfl<|qk rfl<|qm rfl<|qm rfl<|qk rfl<|qk rfl ?_
   refine qk rfl<|qm rfl<|qm rfl<|sd_done<|sw_ret ?_
   have Y2 := Gr.trans (Gr.trans (Gr.trans (Gr.trans G1 G2) G3) G4) G5
   have X16 := ((Gr.refl w).trans Y2)
   cases hm
   refine ⟨_, _, rfl, res_1 rfl (rv_tmp rfl), ?_⟩
   exact ⟨rfl, X16⟩
 replace hm := iT c2 hm
 refine qm rfl<|qm rfl ?_
 have B12 := (O4_r0_s.gr G5)
 obtain ⟨x5, hx5, hm⟩ := bnd hm
 refine qe rfl (eC en_18 rfl (ref03_SameInts_w hx5 (Own.rd B12) (Own.rd O5_r0_s))) ?_
 rintro _ w6 ⟨rfl, G6⟩
 have z13 := G6.size
 refine qm rfl<|qp rfl (vv_move rfl) (fun c3 => ?_) (fun c3 => ?_)
 · replace hm := cnd_t c3 hm
   refine qm rfl<|qm rfl<|qv rfl (vv_eql (a := x3.2) (b := x4.2) rfl rfl)<|qm rfl<|qm rfl<|sd_done<|sw_ret ?_
   have Y3 := Gr.trans (Gr.trans (Gr.trans (Gr.trans (Gr.trans G1 G2) G3) G4) G5) G6
   have X14 := ((Gr.refl w).trans Y3)
   cases hm
   refine ⟨_, _, rfl, res_1 rfl (rv_tmp rfl), ?_⟩
   exact ⟨rfl, X14⟩
 replace hm := cnd_f c3 hm
 refine qk rfl<|qk rfl<|qk rfl<|qm rfl<|qm rfl<|sd_done<|sw_ret ?_
 have Y4 := Gr.trans (Gr.trans (Gr.trans (Gr.trans (Gr.trans G1 G2) G3) G4) G5) G6
 have X15 := ((Gr.refl w).trans Y4)
 cases hm
 refine ⟨_, _, rfl, res_1 rfl (rv_tmp rfl), ?_⟩
 exact ⟨rfl, X15⟩
end Go.Proofs.Ytopkalcefepilaa.Mx
