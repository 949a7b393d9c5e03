/- Walks that follow mirrors: At. Printed by mx.py. -/
import Derived.Test.YtopkalcefepilaaGd
import Derived.Test.YtopkalcefepilaaZd
set_option linter.unusedVariables false
set_option linter.unusedSimpArgs false
set_option maxRecDepth 100000
set_option maxHeartbeats 2000000
namespace Go.Proofs.Ytopkalcefepilaa.Mx
open Go Go.RowKit Go.Sx
theorem en_33 : En Try.prog 33 := fun _ _ => by kernel_rfl
theorem en_35 : En Try.prog 35 := fun _ _ => by kernel_rfl
theorem law10_PlanAttains_w {p0 p1 r} (hm : law10_PlanAttains p0 p1 = some r) {w : World} :
    Calls Try.prog 10 [.agg (TScheme.cs p0).toArray, .int .i64 p1].toArray w fun e w' => ∃ v, e = .returned v ∧ (v = .bool r ∧ Gr w w') := by
 unfold law10_PlanAttains at hm
 refine calls_of_sw 65 Try.func10 rfl rfl rfl<|qs 2 rfl<|qe rfl (ev_box (cs := TScheme.cs p0) rfl rfl) ?_
 rintro _ w1 ⟨b1, rfl, hbw1, Bw1, G1⟩
 have z1 := G1.size
 have lt2 := Bw1.lt
 refine qm rfl<|qd 2 rfl ?_
 obtain ⟨x1, hx1, hm⟩ := bnd hm
 refine qe rfl (eC en_33 rfl (law10_alive_w hx1)) ?_
 rintro _ w2 ⟨rfl, G2⟩
 have z3 := G2.size
 refine qm rfl<|qd 8 rfl ?_
 have B4 := (Bw1.gr G2)
 refine qv rfl (vv_loadW agg_26 rfl B4 rfl)<|qm rfl ?_
 obtain ⟨x2, hx2, hm⟩ := bnd hm
 refine qe rfl (eC en_14 rfl (plan_Worst_w hx2)) ?_
 rintro _ w3 ⟨rfl, G3⟩
 have z5 := G3.size
 refine qm rfl<|qm rfl<|qm rfl<|qm rfl<|qm rfl<|sd_done<|sw_seq ?_
 refine qg 8 rfl ?_
 have B6 := (B4.gr G3)
 refine qv rfl (vv_loadW agg_26 rfl B6 rfl)<|qm rfl ?_
 obtain ⟨x3, hx3, hm⟩ := bnd hm
 refine qe rfl (eC en_16 rfl (plan_Witness_w hx3)) ?_
 rintro _ w4 ⟨u4_r0_s, z4_r0_s, g4_r0_s, rfl, O4_r0_s, f4_r0_s, G4⟩
 have z7 := G4.size
 have lt8 := O4_r0_s.lth
 refine qm rfl<|qm rfl<|qm rfl<|qm rfl<|qm rfl<|sd_done<|sw_seq ?_
 refine qs 2 rfl<|qm rfl<|qv rfl (vv_neq (a := x2.2) (b := 0) rfl rfl)<|sd_done<|sw_cond rfl (fun c1 => ?_) (fun c1 => ?_)
 · replace hm := iT c1 hm
   refine qs 12 rfl<|qm rfl<|qpF rfl (vv_move rfl) (fun c2 => ?_) (fun c2 => ?_)
   · replace hm := cnd_f c2 hm
     refine qk rfl<|qk rfl<|qk rfl<|qm rfl<|qm rfl<|qk rfl<|qk rfl ?_
     refine qk rfl<|qm rfl<|qm rfl<|qb ?_
     have Y1 := Gr.trans (Gr.trans (Gr.trans G1 G2) G3) G4
     have X11 := ((Gr.refl w).trans Y1)
     cases hm
     refine ⟨_, _, rfl, res_1 rfl (rv_tmp rfl), ?_⟩
     exact ⟨rfl, X11⟩
   replace hm := cnd_t c2 hm
   refine qm rfl<|qm rfl<|qv rfl (vv_eql (a := x3.2) (b := x2.2) rfl rfl)<|qm rfl<|qpF rfl (vv_move rfl) (fun c3 => ?_) (fun c3 => ?_)
   · replace hm := iF c3 hm
     refine qk rfl<|qk rfl<|qk rfl<|qm rfl<|qm rfl<|sd_done<|sw_ret ?_
     refine then_r ?_
     have Y2 := Gr.trans (Gr.trans (Gr.trans G1 G2) G3) G4
     have X10 := ((Gr.refl w).trans Y2)
     cases hm
     refine ⟨_, _, rfl, res_1 rfl (rv_tmp rfl), ?_⟩
     exact ⟨rfl, X10⟩
   replace hm := iT c3 hm
   refine qm rfl<|qv rfl (vv_lenT (l := x3.1) (c := ic) Try.underlying32 rfl (Own.rd O4_r0_s))<|qv rfl (vv_eql (a := (x3.1.length : Int)) (b := 0) rfl rfl)<|qm rfl<|qm rfl<|sd_done<|sw_ret ?_
   refine then_r ?_
   have Y3 := Gr.trans (Gr.trans (Gr.trans G1 G2) G3) G4
   have X9 := ((Gr.refl w).trans Y3)
   cases hm
   refine ⟨_, _, rfl, res_1 rfl (rv_tmp rfl), ?_⟩
   exact ⟨rfl, X9⟩
 replace hm := iF c1 hm
 refine qu<|qs 8 rfl ?_
 have B12 := (B6.gr G4)
 refine qv rfl (vv_loadW agg_26 rfl B12 rfl)<|qm rfl ?_
 obtain ⟨x4, hx4, hm⟩ := bnd hm
 refine qe rfl (eC en_35 rfl (cover_Cover_w hx4 (Own.rd O4_r0_s))) ?_
 rintro _ w5 ⟨u5_r0_s, z5_r0_s, g5_r0_s, rfl, O5_r0_s, f5_r0_s, G5⟩
 have z13 := G5.size
 have lt14 := O5_r0_s.lth
 refine qm rfl<|qm rfl<|qm rfl<|qm rfl<|qm rfl<|sd_done<|sw_seq ?_
 refine qg 22 rfl<|qm rfl<|qpF rfl (vv_move rfl) (fun c4 => ?_) (fun c4 => ?_)
 · replace hm := cnd_f c4 hm
   refine qk rfl<|qk rfl<|qm rfl<|qm rfl<|qk rfl<|qk rfl<|qm rfl ?_
   refine qm rfl<|qk rfl<|qk rfl<|qk rfl<|qk rfl<|qm rfl<|qm rfl ?_
   refine qk rfl<|qk rfl<|qk rfl<|qk rfl<|qm rfl<|qm rfl<|sd_done ?_
   refine sw_ret ?_
   have Y4 := Gr.trans (Gr.trans (Gr.trans (Gr.trans G1 G2) G3) G4) G5
   have X20 := ((Gr.refl w).trans Y4)
   cases hm
   refine ⟨_, _, rfl, res_1 rfl (rv_tmp rfl), ?_⟩
   exact ⟨rfl, X20⟩
 replace hm := cnd_t c4 hm
 refine qm rfl<|qv rfl (vv_eql (a := x3.2) (b := 0) rfl rfl)<|qm rfl<|qpF rfl (vv_move rfl) (fun c5 => ?_) (fun c5 => ?_)
 · replace hm := iF c5 hm
   refine qk rfl<|qk rfl<|qm rfl<|qm rfl<|qk rfl<|qk rfl<|qk rfl ?_
   refine qk rfl<|qm rfl<|qm rfl<|qk rfl<|qk rfl<|qk rfl<|qk rfl ?_
   refine qm rfl<|qm rfl<|sd_done<|sw_ret ?_
   have Y5 := Gr.trans (Gr.trans (Gr.trans (Gr.trans G1 G2) G3) G4) G5
   have X19 := ((Gr.refl w).trans Y5)
   cases hm
   refine ⟨_, _, rfl, res_1 rfl (rv_tmp rfl), ?_⟩
   exact ⟨rfl, X19⟩
 replace hm := iT c5 hm
 refine qm rfl<|qv rfl (vv_eql (a := x4.2) (b := 0) rfl rfl)<|qm rfl<|qpF rfl (vv_move rfl) (fun c6 => ?_) (fun c6 => ?_)
 · replace hm := iF c6 hm
   refine qk rfl<|qk rfl<|qk rfl<|qk rfl<|qm rfl<|qm rfl<|qk rfl ?_
   refine qk rfl<|qk rfl<|qk rfl<|qm rfl<|qm rfl<|sd_done<|sw_ret ?_
   have Y6 := Gr.trans (Gr.trans (Gr.trans (Gr.trans G1 G2) G3) G4) G5
   have X18 := ((Gr.refl w).trans Y6)
   cases hm
   refine ⟨_, _, rfl, res_1 rfl (rv_tmp rfl), ?_⟩
   exact ⟨rfl, X18⟩
 replace hm := iT c6 hm
 refine qm rfl ?_
 have B15 := (O4_r0_s.gr G5)
 refine qv rfl (vv_lenT (l := x3.1) (c := ic) Try.underlying32 rfl (Own.rd B15))<|qm rfl<|qv rfl (vv_leq (a := (x3.1.length : Int)) (b := p1) rfl rfl)<|qm rfl<|qpF rfl (vv_move rfl) (fun c7 => ?_) (fun c7 => ?_)
 · replace hm := iF c7 hm
   refine qk rfl<|qk rfl<|qk rfl<|qk rfl<|qm rfl<|qm rfl<|sd_done ?_
   refine sw_ret ?_
   have Y7 := Gr.trans (Gr.trans (Gr.trans (Gr.trans G1 G2) G3) G4) G5
   have X17 := ((Gr.refl w).trans Y7)
   cases hm
   refine ⟨_, _, rfl, res_1 rfl (rv_tmp rfl), ?_⟩
   exact ⟨rfl, X17⟩
 replace hm := iT c7 hm
 refine qm rfl<|qv rfl (vv_lenT (l := x4.1) (c := TSubset.cs) Try.underlying74 rfl (Own.rd O5_r0_s))<|qm rfl<|qv rfl (vv_eql (a := (x4.1.length : Int)) (b := x2.1) rfl rfl)<|qm rfl<|qm rfl<|sd_done ?_
 refine sw_ret ?_
 have Y8 := Gr.trans (Gr.trans (Gr.trans (Gr.trans G1 G2) G3) G4) G5
 have X16 := ((Gr.refl w).trans Y8)
 cases hm
 refine ⟨_, _, rfl, res_1 rfl (rv_tmp rfl), ?_⟩
 exact ⟨rfl, X16⟩
end Go.Proofs.Ytopkalcefepilaa.Mx
