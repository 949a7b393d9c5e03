/- Walks that follow mirrors: Xe. Printed by mx.py. -/
import Derived.Test.YtjdffpglgkefmaaGreatXd
import Derived.Test.YtjdffpglgkefmaaGreatZd
set_option linter.unusedVariables false
set_option linter.unusedSimpArgs false
set_option maxRecDepth 100000
set_option maxHeartbeats 2000000
namespace Go.Proofs.YtjdffpglgkefmaaGreat.Mx
open Go Go.RowKit Go.Sx
theorem fa_78_1 : FA Tryz.prog 78 1 4 := fun _ _ _ => by kernel_rfl
theorem fa_78_0 : FA Tryz.prog 78 0 0 := fun _ _ _ => by kernel_rfl
theorem fa_33_0 : FA Tryz.prog 33 0 0 := fun _ _ _ => by kernel_rfl
theorem fa_78_2 : FA Tryz.prog 78 2 5 := fun _ _ _ => by kernel_rfl
theorem agg_75 : Agg Tryz.prog 75 18 := fun _ => ⟨by kernel_rfl, by kernel_rfl⟩
theorem zv_75 : ZV Tryz.prog 75 (.agg [.bool false, .int .i64 0, .int .u8 0, .int .u8 0, .int .u8 0, .int .u8 0, .int .u8 0, .int .u8 0, .int .u8 0, .int .u8 0, .int .u8 0, .int .u8 0, .int .u8 0, .int .u8 0, .int .u8 0, .int .u8 0, .int .u8 0, .int .u8 0].toArray) := fun _ => by kernel_rfl
theorem fa_75_0 : FA Tryz.prog 75 0 0 := fun _ _ _ => by kernel_rfl
theorem one_4 : One Tryz.prog 4 := fun _ => ⟨by kernel_rfl, by kernel_rfl⟩
theorem fa_75_1 : FA Tryz.prog 75 1 1 := fun _ _ _ => by kernel_rfl
theorem bs_75 : BS Tryz.prog 75 (fun i => [(0, 1), (1, 1), (2, 16)][i]?) [.bool false, .int .i64 0, .int .u8 0, .int .u8 0, .int .u8 0, .int .u8 0, .int .u8 0, .int .u8 0, .int .u8 0, .int .u8 0, .int .u8 0, .int .u8 0, .int .u8 0, .int .u8 0, .int .u8 0, .int .u8 0, .int .u8 0, .int .u8 0] := bs_mk Tryz.underlying75 zv_75 ⟨rfl, (one_4).siz, rfl, (one_3).siz, rfl, (agg_23).siz, trivial⟩
theorem eqc_4 : EqC Tryz.prog 1 4 [.b] := eqc_bool Tryz.underlying4 one_4
theorem eqc_75 : EqC Tryz.prog 3 75 [.b, .i .i64, .i .u8, .i .u8, .i .u8, .i .u8, .i .u8, .i .u8, .i .u8, .i .u8, .i .u8, .i .u8, .i .u8, .i .u8, .i .u8, .i .u8, .i .u8, .i .u8] := eqc_struct Tryz.underlying75 (by kernel_rfl) agg_75 (show EqF _ 2 _ _ _ from (eqf_cons (ks1 := [.b]) (ks2 := [.i .i64, .i .u8, .i .u8, .i .u8, .i .u8, .i .u8, .i .u8, .i .u8, .i .u8, .i .u8, .i .u8, .i .u8, .i .u8, .i .u8, .i .u8, .i .u8, .i .u8]) rfl (by simp) (eqc_4.up (by decide)) (eqf_cons (ks1 := [.i .i64]) (ks2 := [.i .u8, .i .u8, .i .u8, .i .u8, .i .u8, .i .u8, .i .u8, .i .u8, .i .u8, .i .u8, .i .u8, .i .u8, .i .u8, .i .u8, .i .u8, .i .u8]) rfl (by simp) (eqc_3.up (by decide)) (eqf_cons (ks1 := [.i .u8, .i .u8, .i .u8, .i .u8, .i .u8, .i .u8, .i .u8, .i .u8, .i .u8, .i .u8, .i .u8, .i .u8, .i .u8, .i .u8, .i .u8, .i .u8]) (ks2 := []) rfl (by simp) (eqc_23.up (by decide)) (eqf_nil _)))))
theorem eqt_75 : EqT Tryz.prog 75 [.b, .i .i64, .i .u8, .i .u8, .i .u8, .i .u8, .i .u8, .i .u8, .i .u8, .i .u8, .i .u8, .i .u8, .i .u8, .i .u8, .i .u8, .i .u8, .i .u8, .i .u8] := ⟨by kernel_rfl, agg_75, 3, by decide, eqc_75⟩
theorem en_40 : En Tryz.prog 40 := fun _ _ => by kernel_rfl
theorem en_136 : En Tryz.prog 136 := fun _ _ => by kernel_rfl
theorem en_60 : En Tryz.prog 60 := fun _ _ => by kernel_rfl
theorem bsl_29_0 : BSl Tryz.prog 29 0 92 18 [] := bsl_nil Tryz.underlying29 (agg_92).siz
theorem en_83 : En Tryz.prog 83 := fun _ _ => by kernel_rfl
theorem fa_122_2 : FA Tryz.prog 122 2 2 := fun _ _ _ => by kernel_rfl
theorem en_53 : En Tryz.prog 53 := fun _ _ => by kernel_rfl
theorem en_50 : En Tryz.prog 50 := fun _ _ => by kernel_rfl
theorem en_25 : En Tryz.prog 25 := fun _ _ => by kernel_rfl
theorem en_84 : En Tryz.prog 84 := fun _ _ => by kernel_rfl
theorem fa_75_2 : FA Tryz.prog 75 2 2 := fun _ _ _ => by kernel_rfl
theorem en_85 : En Tryz.prog 85 := fun _ _ => by kernel_rfl
theorem epoch_Check_w {p0 p1 p2 vp2_1 zp2_1 gp2_1 op2_1 r} (hm : epoch_Check p0 p1 p2 = some r) {w : World} (hp2_1 : Rd w zp2_1 gp2_1 op2_1 18 vp2_1 (p2.Secret.Labels.map TLabel.cs)) :
    Calls Tryz.prog 40 [.agg (TScheme.cs p0).toArray, .agg (TAir.cs p1).toArray, .agg (TReceiver.cs p2 vp2_1).toArray].toArray w fun e w' => ∃ v, e = .returned v ∧ (v = .int .i64 r ∧ Gr w w') := by
 have lt1 := hp2_1.lth
 unfold epoch_Check at hm
 refine calls_of_sw 76 Tryz.func40 rfl rfl rfl<|qs 4 rfl<|qe rfl (ev_box (cs := TScheme.cs p0) rfl rfl) ?_
 rintro _ w1 ⟨b1, rfl, hbw1, Bw1, G1⟩
 have z2 := G1.size
 have lt3 := Bw1.lt
 refine qe rfl (ev_box (cs := TAir.cs p1) rfl rfl) ?_
 rintro _ w2 ⟨b2, rfl, hbw2, Bw2, G2⟩
 have z4 := G2.size
 have lt5 := Bw2.lt
 refine qe rfl (ev_box (cs := TReceiver.cs p2 vp2_1) rfl rfl) ?_
 rintro _ w3 ⟨b3, rfl, hbw3, Bw3, G3⟩
 have z6 := G3.size
 have lt7 := Bw3.lt
 refine qm rfl<|sd_done<|sw_seq<|qs 4 rfl ?_
 have Y1 := Gr.trans G2 G3
 have B8 := (Bw1.gr Y1)
 refine qv rfl (vv_loadW agg_28 rfl B8 rfl) ?_
 have B9 := (Bw2.gr G3)
 refine qv rfl (vv_loadW agg_65 rfl B9 rfl) ?_
 obtain ⟨x1, hx1, hm⟩ := bnd hm
 refine qe rfl (eC en_81 rfl (epoch_both_w hx1)) ?_
 rintro _ w4 ⟨rfl, G4⟩
 have z10 := G4.size
 refine qm rfl<|qd 2 rfl<|qm rfl<|qv rfl (vv_neq (a := x1) (b := 0) rfl rfl)<|sd_done ?_
 refine sw_cond rfl (fun c1 => ?_) (fun c1 => ?_)
 · replace hm := iT c1 hm
   refine qs 2 rfl<|qm rfl<|qm rfl<|sd_done<|sw_ret<|then_r ?_
   have Y2 := Gr.trans (Gr.trans G1 Y1) G4
   have X11 := ((Gr.refl w).trans Y2)
   cases hm
   refine ⟨_, _, rfl, res_1 rfl (rv_tmp rfl), ?_⟩
   exact ⟨rfl, X11⟩
 replace hm := iF c1 hm
 refine qu<|sw_seq ?_
 have Y3 := Gr.trans (Gr.trans G1 Y1) G4
 have X12 := ((Gr.refl w).trans Y3)
 refine qj (β := Bool) (rg 16 28) (fun a2 => [(43, .bool a2)]) (fun a2 wr => (epoch_Check_J1 p2 a2 = some r) ∧ Kz [] w4 wr) ?_ ?_
 · refine dw [([])] [] (.leaf [(0,10),(1,10),(2,10),(3,10),(4,10),(5,10),(6,10),(7,10),(8,10),(9,10),(10,10),(11,10),(12,10),(13,10),(14,10),(15,10),(16,10),(17,10),(18,10),(19,10),(20,10),(21,10),(22,10),(23,10),(24,10),(25,10),(26,10),(27,10)]) ?_
   intro w11 G11 zw11
   refine sdz_leaf<|dh 0 rfl rfl (fun w hS => vv_fieldAddr fa_78_1 rfl) ?_
   have B35 := ((Bw3.gr G4).gr G11)
   refine dh 0 rfl rfl (fun w hS => vv_load1 (v := .int .i64 p2.Ahead) one_3 rfl (Bx.kp B35 hS) rfl)<|dh 0 rfl rfl (fun w hS => vv_fieldAddr fa_65_3 rfl) ?_
   have B36 := ((B9.gr G4).gr G11)
   refine dh 0 rfl rfl (fun w hS => vv_load1 (v := .int .i64 p1.Drift) one_3 rfl (Bx.kp B36 hS) rfl)<|dh 0 rfl rfl (fun w hS => vv_negI (a := p1.Drift) rfl)<|dh 0 rfl rfl (fun w hS => vv_lss (a := p2.Ahead) (b := w64 (-p1.Drift)) rfl rfl)<|qq 0 rfl rfl (Kp.refl ([]) w11) (fun w hS => vv_move rfl) (fun c10 => ?_) (fun c10 => ?_)
   · replace hm := iT c10 hm
     refine dx 0 rfl rfl<|dx 0 rfl rfl<|dx 0 rfl rfl<|dx 0 rfl rfl<|dx 0 rfl rfl<|dm 0 rfl rfl<|dm 0 rfl rfl ?_
     refine dx 0 rfl rfl<|dx 0 rfl rfl<|dx 0 rfl rfl<|dx 0 rfl rfl<|dm 0 rfl rfl<|dm 0 rfl rfl<|dx 0 rfl rfl ?_
     refine dx 0 rfl rfl<|dx 0 rfl rfl<|dx 0 rfl rfl<|dx 0 rfl rfl<|dx 0 rfl rfl<|dx 0 rfl rfl<|dm 0 rfl rfl ?_
     refine sd_nil ?_
     exact ⟨rfl, true, sbq, hm, (kz0.gr G11)⟩
   replace hm := iF c10 hm
   refine dh 0 rfl rfl (fun w hS => vv_fieldAddr fa_78_1 rfl)<|dh 0 rfl rfl (fun w hS => vv_load1 (v := .int .i64 p2.Ahead) one_3 rfl (Bx.kp B35 hS) rfl)<|dh 0 rfl rfl (fun w hS => vv_fieldAddr fa_65_3 rfl)<|dh 0 rfl rfl (fun w hS => vv_load1 (v := .int .i64 p1.Drift) one_3 rfl (Bx.kp B36 hS) rfl)<|dh 0 rfl rfl (fun w hS => vv_gtr (a := p2.Ahead) (b := p1.Drift) rfl rfl)<|dm 0 rfl rfl<|qq 0 rfl rfl (Kp.refl ([]) w11) (fun w hS => vv_move rfl) (fun c11 => ?_) (fun c11 => ?_)
   · replace hm := iT c11 hm
     refine dx 0 rfl rfl<|dx 0 rfl rfl<|dx 0 rfl rfl<|dx 0 rfl rfl<|dm 0 rfl rfl<|dm 0 rfl rfl<|dx 0 rfl rfl ?_
     refine dx 0 rfl rfl<|dx 0 rfl rfl<|dx 0 rfl rfl<|dx 0 rfl rfl<|dx 0 rfl rfl<|dx 0 rfl rfl<|dm 0 rfl rfl ?_
     refine sd_nil ?_
     exact ⟨rfl, true, sbq, hm, (kz0.gr G11)⟩
   replace hm := iF c11 hm
   refine dh 0 rfl rfl (fun w hS => vv_fieldAddr fa_78_0 rfl)<|dh 0 rfl rfl (fun w hS => vv_fieldAddr fa_33_0 rfl)<|dh 0 rfl rfl (fun w hS => vv_load1 (v := .int .i64 p2.Secret.Receiver) one_3 rfl (Bx.kp B35 hS) rfl)<|dh 0 rfl rfl (fun w hS => vv_lss (a := p2.Secret.Receiver) (b := 0) rfl rfl)<|dm 0 rfl rfl<|qq 0 rfl rfl (Kp.refl ([]) w11) (fun w hS => vv_move rfl) (fun c12 => ?_) (fun c12 => ?_)
   · replace hm := iT c12 hm
     refine dx 0 rfl rfl<|dx 0 rfl rfl<|dx 0 rfl rfl<|dx 0 rfl rfl<|dx 0 rfl rfl<|dx 0 rfl rfl<|dx 0 rfl rfl ?_
     refine dm 0 rfl rfl<|sd_nil ?_
     exact ⟨rfl, true, sbq, hm, (kz0.gr G11)⟩
   replace hm := iF c12 hm
   refine dh 0 rfl rfl (fun w hS => vv_fieldAddr fa_78_0 rfl)<|dh 0 rfl rfl (fun w hS => vv_fieldAddr fa_33_0 rfl)<|dh 0 rfl rfl (fun w hS => vv_load1 (v := .int .i64 p2.Secret.Receiver) one_3 rfl (Bx.kp B35 hS) rfl)<|dh 0 rfl rfl (fun w hS => vv_fieldAddr fa_28_1 rfl) ?_
   have B40 := ((B8.gr G4).gr G11)
   refine dh 0 rfl rfl (fun w hS => vv_load1 (v := .int .i64 p0.Depth) one_3 rfl (Bx.kp B40 hS) rfl) ?_
   obtain ⟨n9, hn9, hm⟩ := bnd hm
   refine dh 0 rfl rfl (fun w hS => vv_shlI (a := 1) (b := p0.Depth) rfl rfl hn9)<|dh 0 rfl rfl (fun w hS => vv_geq (a := p2.Secret.Receiver) (b := shlI 1 n9) rfl rfl)<|dm 0 rfl rfl<|sd_nil ?_
   exact ⟨rfl, (decide (shlI 1 n9 ≤ p2.Secret.Receiver)), sbq, hm, (kz0.gr G11)⟩
 clear hm; rintro a2 w5 ⟨hm, K5⟩
 have z13 := K5.size
 unfold epoch_Check_J1 at hm
 refine sw_cond rfl (fun c2 => ?_) (fun c2 => ?_)
 · replace hm := cnd_t c2 hm
   refine qs 1 rfl<|qm rfl<|qb ?_
   have X14 := (X12.kz K5)
   cases hm
   refine ⟨_, _, rfl, res_1 rfl (rv_tmp rfl), ?_⟩
   exact ⟨rfl, X14⟩
 replace hm := cnd_f c2 hm
 refine qu<|sw_seq<|qs 3 rfl<|qv rfl (vv_fieldAddr fa_78_2 rfl) ?_
 have B15 := ((Bw3.gr G4).kz K5)
 refine qv rfl (vv_loadM (vs := TA2_Slot.cs p2.Slots) agg_76 rfl B15 rfl rfl)<|qm rfl<|sd_done<|sw_block ?_
 have X16 := (X12.kz K5)
 have B17 := ((hp2_1.gr Y3).kz K5)
 refine sw_loopD (α := Nat × Int) ([6, 8, 9] ++ rg 46 30) (fun ⟨n2, a4⟩ => [(6, .int .i64 0), (46, .int .i64 a4)]) (fun ⟨n2, a4⟩ wr => (fixN (epoch_Check_L2 p2) n2 a4 = some r) ∧ Kz [] w5 wr) (fun ⟨n2, a4⟩ => n2) ⟨FUEL, 0⟩ ?_ ?_ ?_
 · exact sbq
 · exact ⟨hm, Kz.refl _ _⟩
 clear hm; rintro ⟨n2, a4⟩ w6 ⟨hm, K6⟩
 have z18 := K6.size
 have hb := fix_succ hm; clear hm; obtain ⟨n2, rfl, hm⟩ := hb
 generalize hrec2 : fixN (epoch_Check_L2 p2) n2 = rec2 at hm
 unfold epoch_Check_L2 at hm
 try dsimp only at hm
 refine qs 1 rfl<|qv rfl (vv_lss (a := a4) (b := 2) rfl rfl)<|sd_done<|sw_seq<|cnF rfl (fun c3 => ?_) (fun c3 => ?_)
 · replace hm := iF c3 hm
   refine sw_exit<|then_x<|then_x<|block_x<|then_n<|qs 1 rfl ?_
   refine qm rfl<|sd_done<|sw_ret ?_
   have X34 := (X16.kz K6)
   cases hm
   refine ⟨_, _, rfl, res_1 rfl (rv_tmp rfl), ?_⟩
   exact ⟨rfl, X34⟩
 replace hm := iT c3 hm
 refine qu<|sw_seq<|sw_block<|qs 5 rfl<|qm rfl ?_
 obtain ⟨y5, hy5, hm⟩ := bnd hm
 refine qv rfl (vv_ixV (l := [p2.Slots.a0, p2.Slots.a1]) (c := TSlot.cs) (i := a4) Tryz.underlying76 (agg_75).siz agg_75 rfl rfl rfl (ws_map _ (fun _ => rfl) (fun _ => rfl)) rfl hy5)<|qe rfl (ev_alloc (cs := TSlot.cs (TSlot.mk false 0 k0)) zv_75 rfl) ?_
 rintro _ w7 ⟨b7, rfl, hbw7, Bw7, G7⟩
 have z19 := G7.size
 have lt20 := Bw7.lt
 refine qm rfl<|qe rfl (ev_stW agg_75 rfl rfl rfl Bw7 rfl rfl) ?_
 rintro _ w8 ⟨Bw8, M8⟩
 have z21 := M8.size
 refine sd_done ?_
 have X22 := (((X16.kz K6).trans G7).md M8)
 refine qj (β := Bool) (rg 50 25) (fun a6 => [(74, .bool a6)]) (fun a6 wr => (epoch_Check_J3 a4 rec2 a6 = some r) ∧ Kz [] w8 wr) ?_ ?_
 · refine qg 25 rfl<|qv rfl (vv_fieldAddr fa_75_0 rfl)<|qv rfl (vv_load1 (v := .bool y5.Full) one_4 rfl Bw8 rfl)<|qpF rfl (vv_move rfl) (fun c5 => ?_) (fun c5 => ?_)
   · replace hm := cnd_f c5 hm
     refine qk rfl<|qk rfl<|qk rfl<|qk rfl<|qk rfl<|qk rfl<|qk rfl ?_
     refine qk rfl<|qk rfl<|qk rfl<|qk rfl<|qm rfl<|qm rfl<|qv rfl (vv_fieldAddr fa_75_0 rfl) ?_
     refine qv rfl (vv_load1 (v := .bool y5.Full) one_4 rfl Bw8 rfl)<|qv rfl (vv_not rfl)<|qpF rfl (vv_move rfl) (fun c9 => ?_) (fun c9 => ?_)
     · replace hm := cnd_f c9 hm
       refine qk rfl<|qk rfl<|qk rfl<|qm rfl<|qm rfl<|sd_nil ?_
       exact ⟨rfl, false, sbq, hm, kz0⟩
     replace hm := cnd_t c9 hm
     refine qv rfl (vv_loadW agg_75 rfl Bw8 rfl)<|qv rfl (vv_build (cs := TSlot.cs (TSlot.mk false 0 k0)) bs_75 rfl (by kernel_rfl))<|qv rfl (vv_neqS (cf := TSlot.cs) (a := y5) (b := (TSlot.mk false 0 k0)) eqt_75 rfl rfl rfl rfl (fun h => TSlot.cs_inj h))<|qm rfl<|qm rfl<|sd_nil ?_
     exact ⟨rfl, (decide (y5 ≠ (TSlot.mk false 0 k0))), sbq, hm, kz0⟩
   replace hm := cnd_t c5 hm
   refine qv rfl (vv_fieldAddr fa_75_1 rfl)<|qv rfl (vv_load1 (v := .int .i64 y5.Epoch) one_3 rfl Bw8 rfl) ?_
   obtain ⟨x7, hx7, hm⟩ := bnd hm
   refine qe rfl (eC en_67 rfl (epoch_isTick_w hx7)) ?_
   rintro _ w10 ⟨rfl, G10⟩
   have z26 := G10.size
   refine qv rfl (vv_not rfl)<|qp rfl (vv_move rfl) (fun c6 => ?_) (fun c6 => ?_)
   · replace hm := cnd_t c6 hm
     refine qk rfl<|qk rfl<|qk rfl<|qk rfl<|qk rfl<|qm rfl<|qm rfl ?_
     refine qm rfl<|qk rfl<|qk rfl<|qk rfl<|qk rfl<|qk rfl<|qk rfl ?_
     refine qk rfl<|qk rfl<|qm rfl<|sd_nil ?_
     exact ⟨rfl, true, sbq, hm, (kz0.gr G10)⟩
   replace hm := cnd_f c6 hm
   refine qv rfl (vv_fieldAddr fa_75_1 rfl) ?_
   have B28 := (Bw8.gr G10)
   refine qv rfl (vv_load1 (v := .int .i64 y5.Epoch) one_3 rfl B28 rfl) ?_
   obtain ⟨x8, hx8, hm⟩ := bnd hm
   refine qv rfl (vv_remI (a := y5.Epoch) (b := 2) rfl rfl hx8)<|qm rfl<|qv rfl (vv_neq (a := x8) (b := a4) rfl rfl)<|qm rfl<|qm rfl<|qp rfl (vv_move rfl) (fun c7 => ?_) (fun c7 => ?_)
   · replace hm := iT c7 hm
     refine qk rfl<|qk rfl<|qk rfl<|qk rfl<|qk rfl<|qk rfl<|qk rfl ?_
     refine qk rfl<|qm rfl<|sd_nil ?_
     exact ⟨rfl, true, sbq, hm, (kz0.gr G10)⟩
   replace hm := iF c7 hm
   refine qv rfl (vv_fieldAddr fa_75_0 rfl)<|qv rfl (vv_load1 (v := .bool y5.Full) one_4 rfl B28 rfl)<|qv rfl (vv_not rfl)<|qpF rfl (vv_move rfl) (fun c8 => ?_) (fun c8 => ?_)
   · replace hm := cnd_f c8 hm
     refine qk rfl<|qk rfl<|qk rfl<|qm rfl<|qm rfl<|sd_nil ?_
     exact ⟨rfl, false, sbq, hm, (kz0.gr G10)⟩
   replace hm := cnd_t c8 hm
   refine qv rfl (vv_loadW agg_75 rfl B28 rfl)<|qv rfl (vv_build (cs := TSlot.cs (TSlot.mk false 0 k0)) bs_75 rfl (by kernel_rfl))<|qv rfl (vv_neqS (cf := TSlot.cs) (a := y5) (b := (TSlot.mk false 0 k0)) eqt_75 rfl rfl rfl rfl (fun h => TSlot.cs_inj h))<|qm rfl<|qm rfl<|sd_nil ?_
   exact ⟨rfl, (decide (y5 ≠ (TSlot.mk false 0 k0))), sbq, hm, (kz0.gr G10)⟩
 clear hm; rintro a6 w9 ⟨hm, K9⟩
 have z23 := K9.size
 unfold epoch_Check_J3 at hm
 refine sw_cond rfl (fun c4 => ?_) (fun c4 => ?_)
 · replace hm := cnd_t c4 hm
   refine qs 1 rfl<|qm rfl<|sd_done<|sw_ret<|block_r<|then_r ?_
   refine then_r<|block_r<|then_r ?_
   have X24 := (X22.kz K9)
   cases hm
   refine ⟨_, _, rfl, res_1 rfl (rv_tmp rfl), ?_⟩
   exact ⟨rfl, X24⟩
 replace hm := cnd_f c4 hm
 refine sw_skip<|block_n<|then_n<|qg 2 rfl<|qv rfl (vv_add (k := .i64) (a := a4) (b := 1) rfl rfl)<|qm rfl<|sd_nil ?_
 have K_25 : Kz [] w5 w9 := (((K6.gr G7).md M8).kz K9)
 subst hrec2
 exact ⟨rfl, ⟨n2, w64 (a4 + 1)⟩, sbq, ⟨hm, K_25⟩, Nat.lt_succ_self _⟩
theorem epoch_CheckPacket_1_w {p0 r} (hm : epoch_CheckPacket_1 p0 = some r) {w : World} :
    Calls Tryz.prog 136 [.agg (TItem.cs p0).toArray].toArray w fun e w' => ∃ v, e = .returned v ∧ (v = .bool r ∧ Gr w w') := by
 unfold epoch_CheckPacket_1 at hm
 refine calls_of_sw 21 Tryz.func136 rfl rfl rfl<|qs 2 rfl<|qe rfl (ev_box (cs := TItem.cs p0) rfl rfl) ?_
 rintro _ w1 ⟨b1, rfl, hbw1, Bw1, G1⟩
 have z1 := G1.size
 have lt2 := Bw1.lt
 refine qm rfl<|qd 19 rfl<|qv rfl (vv_fieldAddr fa_133_0 rfl)<|qv rfl (vv_fieldAddr fa_131_0 rfl)<|qv rfl (vv_load1 (v := .int .i64 p0.Subset.Node) one_3 rfl Bw1 rfl) ?_
 refine qv rfl (vv_fieldAddr fa_133_0 rfl)<|qv rfl (vv_fieldAddr fa_131_1 rfl)<|qv rfl (vv_load1 (v := .int .i64 p0.Subset.Minus) one_3 rfl Bw1 rfl)<|qv rfl (vv_minK rfl rfl)<|qv rfl (vv_lss (a := mnI p0.Subset.Node p0.Subset.Minus) (b := 0) rfl rfl)<|qp rfl (vv_move rfl) (fun c1 => ?_) (fun c1 => ?_)
 · replace hm := iT c1 hm
   refine qk rfl<|qk rfl<|qk rfl<|qk rfl<|qk rfl<|qk rfl<|qk rfl ?_
   refine qk rfl<|qm rfl<|qm rfl<|sd_done<|sw_ret ?_
   have X3 := ((Gr.refl w).trans G1)
   cases hm
   refine ⟨_, _, rfl, res_1 rfl (rv_tmp rfl), ?_⟩
   exact ⟨rfl, X3⟩
 replace hm := iF c1 hm
 refine qv rfl (vv_fieldAddr fa_133_0 rfl)<|qv rfl (vv_fieldAddr fa_131_0 rfl)<|qv rfl (vv_load1 (v := .int .i64 p0.Subset.Node) one_3 rfl Bw1 rfl)<|qv rfl (vv_fieldAddr fa_133_0 rfl)<|qv rfl (vv_fieldAddr fa_131_1 rfl)<|qv rfl (vv_load1 (v := .int .i64 p0.Subset.Minus) one_3 rfl Bw1 rfl)<|qv rfl (vv_maxK rfl rfl) ?_
 refine qv rfl (vv_gtr (a := mxI p0.Subset.Node p0.Subset.Minus) (b := 127) rfl rfl)<|qm rfl<|qm rfl<|sd_done<|sw_ret ?_
 have X4 := ((Gr.refl w).trans G1)
 cases hm
 refine ⟨_, _, rfl, res_1 rfl (rv_tmp rfl), ?_⟩
 exact ⟨rfl, X4⟩
theorem slices_IndexFunc_c205_epoch_CheckPacket_1_w {p0 vp0 zp0 gp0 op0 r} (hm : slices_IndexFunc_c205_epoch_CheckPacket_1 p0 = some r) {w : World} (hp0 : Rd w zp0 gp0 op0 18 vp0 (p0.map TItem.cs)) :
    Calls Tryz.prog 200 [vp0, .func (.func 136) [].toArray [].toArray].toArray w fun e w' => ∃ v, e = .returned v ∧ (v = .int .i64 r ∧ Gr w w') := by
 have lt1 := hp0.lth
 unfold slices_IndexFunc_c205_epoch_CheckPacket_1 at hm
 refine calls_of_sw 19 Tryz.func200 rfl rfl rfl<|qs 1 rfl<|qm rfl<|sd_done<|sw_seq<|sw_seq ?_
 refine qg 3 rfl<|qm rfl<|qv rfl (vv_lenT (l := p0) (c := TItem.cs) Tryz.underlying45 rfl hp0)<|qm rfl<|sd_done<|sw_block<|sw_loopD (α := Nat × Int) ([4, 5] ++ rg 8 11) (fun ⟨n1, a2⟩ => [(4, .int .i64 0), (8, .int .i64 a2)]) (fun ⟨n1, a2⟩ wr => (fixN (slices_IndexFunc_c205_epoch_CheckPacket_1_L1 p0) n1 a2 = some r) ∧ Kz [] w wr) (fun ⟨n1, a2⟩ => n1) ⟨FUEL, 0⟩ ?_ ?_ ?_
 · exact sbq
 · exact ⟨hm, Kz.refl _ _⟩
 clear hm; rintro ⟨n1, a2⟩ w1 ⟨hm, K1⟩
 have z2 := K1.size
 have hb := fix_succ hm; clear hm; obtain ⟨n1, rfl, hm⟩ := hb
 generalize hrec1 : fixN (slices_IndexFunc_c205_epoch_CheckPacket_1_L1 p0) n1 = rec1 at hm
 unfold slices_IndexFunc_c205_epoch_CheckPacket_1_L1 at hm
 try dsimp only at hm
 refine qs 1 rfl<|qv rfl (vv_lss (a := a2) (b := (p0.length : Int)) rfl rfl)<|sd_done<|sw_seq<|cnF rfl (fun c1 => ?_) (fun c1 => ?_)
 · replace hm := iF c1 hm
   refine sw_exit<|then_x<|then_x<|block_x<|then_n<|qs 1 rfl ?_
   refine qm rfl<|sd_done<|sw_ret ?_
   have X7 := ((Gr.refl w).kz K1)
   cases hm
   refine ⟨_, _, rfl, res_1 rfl (rv_tmp rfl), ?_⟩
   exact ⟨rfl, X7⟩
 replace hm := iT c1 hm
 refine qu<|sw_seq<|sw_block<|qs 2 rfl<|qm rfl ?_
 refine qm rfl<|qd 6 rfl<|qm rfl<|qm rfl<|qm rfl ?_
 obtain ⟨y3, hy3, hm⟩ := bnd hm
 have B3 := (hp0.kz K1)
 refine qv rfl (vv_ixT (i := a2) Tryz.underlying45 (agg_133).siz rfl B3 rfl hy3)<|qv rfl (vv_elWT agg_133 rfl B3 hy3 (by first | rfl | omega)) ?_
 obtain ⟨x4, hx4, hm⟩ := bnd hm
 refine qe rfl (ev_callV en_136 rfl rfl (epoch_CheckPacket_1_w hx4)) ?_
 rintro _ w2 ⟨rfl, G2⟩
 have z4 := G2.size
 refine sd_done<|sw_cond rfl (fun c2 => ?_) (fun c2 => ?_)
 · replace hm := cnd_t c2 hm
   refine qs 2 rfl<|qm rfl<|qm rfl<|sd_done<|sw_ret<|block_r ?_
   refine then_r<|then_r<|block_r<|then_r ?_
   have X5 := (((Gr.refl w).kz K1).trans G2)
   cases hm
   refine ⟨_, _, rfl, res_1 rfl (rv_tmp rfl), ?_⟩
   exact ⟨rfl, X5⟩
 replace hm := cnd_f c2 hm
 refine sw_skip<|block_n<|then_n<|qg 2 rfl<|qv rfl (vv_add (k := .i64) (a := a2) (b := 1) rfl rfl)<|qm rfl<|sd_nil ?_
 have K_6 : Kz [] w w2 := (K1.gr G2)
 subst hrec1
 exact ⟨rfl, ⟨n1, w64 (a2 + 1)⟩, sbq, ⟨hm, K_6⟩, Nat.lt_succ_self _⟩
theorem slices_ContainsFunc_9968_epoch_CheckPacket_1_w {p0 vp0 zp0 gp0 op0 r} (hm : slices_ContainsFunc_9968_epoch_CheckPacket_1 p0 = some r) {w : World} (hp0 : Rd w zp0 gp0 op0 18 vp0 (p0.map TItem.cs)) :
    Calls Tryz.prog 125 [vp0, .func (.func 136) [].toArray [].toArray].toArray w fun e w' => ∃ v, e = .returned v ∧ (v = .bool r ∧ Gr w w') := by
 have lt1 := hp0.lth
 unfold slices_ContainsFunc_9968_epoch_CheckPacket_1 at hm
 refine calls_of_sw 9 Tryz.func125 rfl rfl rfl<|qs 1 rfl<|qm rfl<|qd 5 rfl ?_
 refine qm rfl<|qm rfl ?_
 obtain ⟨x1, hx1, hm⟩ := bnd hm
 refine qe rfl (eC en_200 rfl (slices_IndexFunc_c205_epoch_CheckPacket_1_w hx1 hp0)) ?_
 rintro _ w1 ⟨rfl, G1⟩
 have z2 := G1.size
 refine qv rfl (vv_geq (a := x1) (b := 0) rfl rfl)<|qm rfl<|sd_done<|sw_ret ?_
 have X3 := ((Gr.refl w).trans G1)
 cases hm
 refine ⟨_, _, rfl, res_1 rfl (rv_tmp rfl), ?_⟩
 exact ⟨rfl, X3⟩
theorem epoch_CheckPacket_w {p0 vp0_2 zp0_2 gp0_2 op0_2 vp0_4 zp0_4 gp0_4 op0_4 vp0_39 zp0_39 gp0_39 op0_39 r} (hm : epoch_CheckPacket p0 = some r) {w : World} (hp0_2 : Rd w zp0_2 gp0_2 op0_2 18 vp0_2 (p0.Head.Items.map TItem.cs)) (hp0_4 : Rd w zp0_4 gp0_4 op0_4 2 vp0_4 (p0.Head.Points.map TPoint.cs)) (hp0_39 : Rd w zp0_39 gp0_39 op0_39 1 vp0_39 (p0.Data.map bvc)) :
    Calls Tryz.prog 60 [.agg (TPacket.cs p0 vp0_2 vp0_4 vp0_39).toArray].toArray w fun e w' => ∃ v, e = .returned v ∧ (v = .int .i64 r ∧ Gr w w') := by
 have lt1 := hp0_2.lth
 have lt2 := hp0_4.lth
 have lt3 := hp0_39.lth
 unfold epoch_CheckPacket at hm
 refine calls_of_sw 99 Tryz.func60 rfl rfl rfl<|qs 2 rfl<|qe rfl (ev_box (cs := TPacket.cs p0 vp0_2 vp0_4 vp0_39) rfl rfl) ?_
 rintro _ w1 ⟨b1, rfl, hbw1, Bw1, G1⟩
 have z4 := G1.size
 have lt5 := Bw1.lt
 refine qm rfl<|qd 4 rfl<|qv rfl (vv_fieldAddr fa_52_2 rfl)<|qv rfl (vv_loadM (vs := THeader.cs p0.Head vp0_2 vp0_4) agg_48 rfl Bw1 rfl rfl)<|qe rfl (ev_alloc (cs := THeader.cs (THeader.mk [] 0#64 [] k0 k0) (.slice none 0 0) (.slice none 0 0)) zv_48 rfl) ?_
 rintro _ w2 ⟨b2, rfl, hbw2, Bw2, G2⟩
 have z6 := G2.size
 have lt7 := Bw2.lt
 have Y1 := Gr.trans G1 G2
 have B8 := (hp0_2.gr Y1)
 have B9 := (hp0_4.gr Y1)
 refine qe rfl (ev_stW agg_48 rfl rfl (THeader.cs_ones _ _ _ (Rd.oneB B8) (Rd.oneB B9)) Bw2 rfl rfl) ?_
 rintro _ w3 ⟨Bw3, M3⟩
 have z10 := M3.size
 refine sd_done ?_
 have X11 := (((Gr.refl w).trans Y1).md M3)
 refine qj (β := Bool) ([4] ++ rg 9 27) (fun a1 => [(4, .bool a1)]) (fun a1 wr => (epoch_CheckPacket_J1 p0 a1 = some r) ∧ Kz [] w3 wr) ?_ ?_
 · refine qg 28 rfl<|qv rfl (vv_fieldAddr fa_48_0 rfl)<|qv rfl (vv_load1 (v := vp0_2) one_45 rfl Bw3 rfl) ?_
   have B38 := (B8.md M3 (pb_lt lt1))
   refine qv rfl (vv_lenT (l := p0.Head.Items) (c := TItem.cs) Tryz.underlying45 rfl B38)<|qv rfl (vv_eql (a := (p0.Head.Items.length : Int)) (b := 0) rfl rfl)<|qpF rfl (vv_move rfl) (fun c13 => ?_) (fun c13 => ?_)
   · replace hm := iF c13 hm
     refine qk rfl<|qk rfl<|qk rfl<|qk rfl<|qm rfl<|qm rfl<|qk rfl ?_
     refine qk rfl<|qk rfl<|qm rfl<|qm rfl<|qk rfl<|qk rfl<|qk rfl ?_
     refine qk rfl<|qm rfl<|qm rfl<|qk rfl<|qk rfl<|qk rfl<|qk rfl ?_
     refine qm rfl<|qm rfl<|sd_nil ?_
     exact ⟨rfl, false, sbq, hm, kz0⟩
   replace hm := iT c13 hm
   refine qv rfl (vv_fieldAddr fa_48_2 rfl)<|qv rfl (vv_load1 (v := vp0_4) one_46 rfl Bw3 rfl) ?_
   have B39 := (B9.md M3 (pb_lt lt2))
   refine qv rfl (vv_lenT (l := p0.Head.Points) (c := TPoint.cs) Tryz.underlying46 rfl B39)<|qv rfl (vv_eql (a := (p0.Head.Points.length : Int)) (b := 0) rfl rfl)<|qm rfl<|qpF rfl (vv_move rfl) (fun c14 => ?_) (fun c14 => ?_)
   · replace hm := iF c14 hm
     refine qk rfl<|qk rfl<|qk rfl<|qm rfl<|qm rfl<|qk rfl<|qk rfl ?_
     refine qk rfl<|qk rfl<|qm rfl<|qm rfl<|qk rfl<|qk rfl<|qk rfl ?_
     refine qk rfl<|qm rfl<|qm rfl<|sd_nil ?_
     exact ⟨rfl, false, sbq, hm, kz0⟩
   replace hm := iT c14 hm
   refine qv rfl (vv_fieldAddr fa_48_1 rfl)<|qv rfl (vv_load1 (v := wv p0.Head.Base) one_24 rfl Bw3 rfl)<|qv rfl (vv_eqlU (c := p0.Head.Base) (d := 0#64) rfl rfl)<|qm rfl<|qpF rfl (vv_move rfl) (fun c15 => ?_) (fun c15 => ?_)
   · replace hm := iF c15 hm
     refine qk rfl<|qk rfl<|qk rfl<|qk rfl<|qm rfl<|qm rfl<|qk rfl ?_
     refine qk rfl<|qk rfl<|qk rfl<|qm rfl<|qm rfl<|sd_nil ?_
     exact ⟨rfl, false, sbq, hm, kz0⟩
   replace hm := iT c15 hm
   refine qv rfl (vv_fieldAddr fa_48_3 rfl)<|qv rfl (vv_loadM (vs := kb p0.Head.Box) agg_23 rfl Bw3 rfl rfl)<|qv rfl (vv_buildZ bz_23)<|qv rfl (vv_eqlS (cf := kb) (a := p0.Head.Box) (b := k0) eqt_23 rfl rfl rfl rfl (fun h => kb_inj h))<|qm rfl<|qpF rfl (vv_move rfl) (fun c16 => ?_) (fun c16 => ?_)
   · replace hm := iF c16 hm
     refine qk rfl<|qk rfl<|qk rfl<|qk rfl<|qm rfl<|qm rfl<|sd_nil ?_
     exact ⟨rfl, false, sbq, hm, kz0⟩
   replace hm := iT c16 hm
   refine qv rfl (vv_fieldAddr fa_48_4 rfl)<|qv rfl (vv_loadM (vs := kb p0.Head.Check) agg_23 rfl Bw3 rfl rfl)<|qv rfl (vv_buildZ bz_23)<|qv rfl (vv_eqlS (cf := kb) (a := p0.Head.Check) (b := k0) eqt_23 rfl rfl rfl rfl (fun h => kb_inj h))<|qm rfl<|qm rfl<|sd_nil ?_
   exact ⟨rfl, (decide (p0.Head.Check = k0)), sbq, hm, kz0⟩
 clear hm; rintro a1 w4 ⟨hm, K4⟩
 have z12 := K4.size
 unfold epoch_CheckPacket_J1 at hm
 refine qs 1 rfl<|qm rfl<|qd 1 rfl<|qm rfl ?_
 refine sd_done ?_
 have X13 := (X11.kz K4)
 refine qj (β := Bool) ([6] ++ rg 36 61) (fun a2 => [(6, .bool a2)]) (fun a2 wr => (epoch_CheckPacket_J2 a2 = some r) ∧ Kz [] w4 wr) ?_ ?_
 · refine qs 2 rfl<|qv rfl (vv_fieldAddr fa_52_0 rfl) ?_
   have B17 := (((Bw1.gr G2).md M3).kz K4)
   refine qv rfl (vv_load1 (v := bv p0.Kind) one_5 rfl B17 rfl)<|sd_done<|sw_block<|qs 2 rfl<|qv rfl (vv_eqlB (p := p0.Kind) (q := 1#8) rfl rfl)<|qm rfl ?_
   refine sd_done<|cnF rfl (fun c2 => ?_) (fun c2 => ?_)
   · replace hm := iF c2 hm
     refine qs 2 rfl<|qv rfl (vv_eqlB (p := p0.Kind) (q := 2#8) rfl rfl)<|qm rfl<|sd_done<|cnF rfl (fun c9 => ?_) (fun c9 => ?_)
     · replace hm := iF c9 hm
       refine sw_skip<|block_n ?_
       exact ⟨rfl, false, sbq, hm, kz0⟩
     replace hm := iT c9 hm
     refine qg 18 rfl<|qv rfl (vv_fieldAddr fa_52_1 rfl)<|qv rfl (vv_load1 (v := .int .i64 p0.Epoch) one_3 rfl B17 rfl)<|qv rfl (vv_eql (a := p0.Epoch) (b := 0) rfl rfl)<|qpF rfl (vv_move rfl) (fun c10 => ?_) (fun c10 => ?_)
     · replace hm := iF c10 hm
       refine qk rfl<|qk rfl<|qk rfl<|qm rfl<|qm rfl<|qk rfl<|qk rfl ?_
       refine qk rfl<|qk rfl<|qm rfl<|qm rfl<|qk rfl<|qm rfl<|qm rfl ?_
       refine sd_nil<|block_n ?_
       exact ⟨rfl, false, sbq, hm, kz0⟩
     replace hm := iT c10 hm
     refine qv rfl (vv_fieldAddr fa_52_3 rfl)<|qv rfl (vv_load1 (v := bv p0.Low) one_5 rfl B17 rfl)<|qv rfl (vv_lssB (p := p0.Low) (q := 4#8) rfl rfl)<|qm rfl<|qpF rfl (vv_move rfl) (fun c11 => ?_) (fun c11 => ?_)
     · replace hm := iF c11 hm
       refine qk rfl<|qk rfl<|qk rfl<|qk rfl<|qm rfl<|qm rfl<|qk rfl ?_
       refine qm rfl<|qm rfl<|sd_nil<|block_n ?_
       exact ⟨rfl, false, sbq, hm, kz0⟩
     replace hm := iT c11 hm
     refine qv rfl (vv_fieldAddr fa_52_5 rfl)<|qv rfl (vv_load1 (v := vp0_39) one_50 rfl B17 rfl) ?_
     have B32 := (((hp0_39.gr Y1).md M3 (pb_lt lt3)).kz K4)
     refine qv rfl (vv_lenT (l := p0.Data) (c := bvc) Tryz.underlying50 rfl B32)<|qv rfl (vv_leq (a := (p0.Data.length : Int)) (b := 256) rfl rfl)<|qm rfl<|qp rfl (vv_move rfl) (fun c12 => ?_) (fun c12 => ?_)
     · replace hm := iT c12 hm
       refine qm rfl<|qm rfl<|qm rfl<|sd_nil<|block_n ?_
       exact ⟨rfl, a1, sbq, hm, kz0⟩
     replace hm := iF c12 hm
     refine qk rfl<|qm rfl<|qm rfl<|sd_nil<|block_n ?_
     exact ⟨rfl, false, sbq, hm, kz0⟩
   replace hm := iT c2 hm
   refine qg 39 rfl<|qv rfl (vv_fieldAddr fa_52_1 rfl)<|qv rfl (vv_load1 (v := .int .i64 p0.Epoch) one_3 rfl B17 rfl) ?_
   obtain ⟨x3, hx3, hm⟩ := bnd hm
   refine qe rfl (eC en_67 rfl (epoch_isTick_w hx3)) ?_
   rintro _ w6 ⟨rfl, G6⟩
   have z18 := G6.size
   refine qpF rfl (vv_move rfl) (fun c3 => ?_) (fun c3 => ?_)
   · replace hm := cnd_f c3 hm
     refine qk rfl<|qk rfl<|qk rfl<|qm rfl<|qm rfl<|qk rfl<|qk rfl ?_
     refine qk rfl<|qm rfl<|qm rfl<|qk rfl<|qk rfl<|qk rfl<|qk rfl ?_
     refine qm rfl<|qm rfl<|qk rfl<|qk rfl<|qk rfl<|qk rfl<|qm rfl ?_
     refine qm rfl<|qk rfl<|qk rfl<|qk rfl<|qk rfl<|qm rfl<|qm rfl ?_
     refine qk rfl<|qk rfl<|qk rfl<|qk rfl<|qk rfl<|qm rfl<|qm rfl ?_
     refine sd_nil<|block_n ?_
     exact ⟨rfl, false, sbq, hm, (kz0.gr G6)⟩
   replace hm := cnd_t c3 hm
   refine qv rfl (vv_fieldAddr fa_52_3 rfl) ?_
   have B19 := (B17.gr G6)
   refine qv rfl (vv_load1 (v := bv p0.Low) one_5 rfl B19 rfl)<|qv rfl (vv_eqlB (p := p0.Low) (q := 0#8) rfl rfl)<|qm rfl<|qpF rfl (vv_move rfl) (fun c4 => ?_) (fun c4 => ?_)
   · replace hm := iF c4 hm
     refine qk rfl<|qk rfl<|qk rfl<|qm rfl<|qm rfl<|qk rfl<|qk rfl ?_
     refine qk rfl<|qk rfl<|qm rfl<|qm rfl<|qk rfl<|qk rfl<|qk rfl ?_
     refine qk rfl<|qm rfl<|qm rfl<|qk rfl<|qk rfl<|qk rfl<|qk rfl ?_
     refine qm rfl<|qm rfl<|qk rfl<|qk rfl<|qk rfl<|qk rfl<|qk rfl ?_
     refine qm rfl<|qm rfl<|sd_nil<|block_n ?_
     exact ⟨rfl, false, sbq, hm, (kz0.gr G6)⟩
   replace hm := iT c4 hm
   refine qv rfl (vv_fieldAddr fa_52_4 rfl)<|qv rfl (vv_load1 (v := wv p0.Number) one_24 rfl B19 rfl)<|qv rfl (vv_eqlU (c := p0.Number) (d := 0#64) rfl rfl)<|qm rfl<|qpF rfl (vv_move rfl) (fun c5 => ?_) (fun c5 => ?_)
   · replace hm := iF c5 hm
     refine qk rfl<|qk rfl<|qk rfl<|qk rfl<|qm rfl<|qm rfl<|qk rfl ?_
     refine qk rfl<|qk rfl<|qk rfl<|qm rfl<|qm rfl<|qk rfl<|qk rfl ?_
     refine qk rfl<|qk rfl<|qm rfl<|qm rfl<|qk rfl<|qk rfl<|qk rfl ?_
     refine qk rfl<|qk rfl<|qm rfl<|qm rfl<|sd_nil<|block_n ?_
     exact ⟨rfl, false, sbq, hm, (kz0.gr G6)⟩
   replace hm := iT c5 hm
   refine qv rfl (vv_fieldAddr fa_52_5 rfl)<|qv rfl (vv_load1 (v := vp0_39) one_50 rfl B19 rfl) ?_
   have B20 := ((((hp0_39.gr Y1).md M3 (pb_lt lt3)).kz K4).gr G6)
   refine qv rfl (vv_lenT (l := p0.Data) (c := bvc) Tryz.underlying50 rfl B20)<|qv rfl (vv_eql (a := (p0.Data.length : Int)) (b := 0) rfl rfl)<|qm rfl<|qpF rfl (vv_move rfl) (fun c6 => ?_) (fun c6 => ?_)
   · replace hm := iF c6 hm
     refine qk rfl<|qk rfl<|qk rfl<|qk rfl<|qm rfl<|qm rfl<|qk rfl ?_
     refine qk rfl<|qk rfl<|qk rfl<|qm rfl<|qm rfl<|qk rfl<|qk rfl ?_
     refine qk rfl<|qk rfl<|qk rfl<|qm rfl<|qm rfl<|sd_nil<|block_n ?_
     exact ⟨rfl, false, sbq, hm, (kz0.gr G6)⟩
   replace hm := iT c6 hm
   refine qv rfl (vv_fieldAddr fa_48_0 rfl) ?_
   have B21 := ((Bw3.kz K4).gr G6)
   refine qv rfl (vv_load1 (v := vp0_2) one_45 rfl B21 rfl) ?_
   have B22 := (((B8.md M3 (pb_lt lt1)).kz K4).gr G6)
   refine qv rfl (vv_lenT (l := p0.Head.Items) (c := TItem.cs) Tryz.underlying45 rfl B22)<|qv rfl (vv_leq (a := (p0.Head.Items.length : Int)) (b := 64) rfl rfl)<|qm rfl<|qpF rfl (vv_move rfl) (fun c7 => ?_) (fun c7 => ?_)
   · replace hm := iF c7 hm
     refine qk rfl<|qk rfl<|qk rfl<|qk rfl<|qm rfl<|qm rfl<|qk rfl ?_
     refine qk rfl<|qk rfl<|qk rfl<|qk rfl<|qm rfl<|qm rfl<|sd_nil ?_
     refine block_n ?_
     exact ⟨rfl, false, sbq, hm, (kz0.gr G6)⟩
   replace hm := iT c7 hm
   refine qv rfl (vv_fieldAddr fa_48_2 rfl)<|qv rfl (vv_load1 (v := vp0_4) one_46 rfl B21 rfl) ?_
   have B23 := (((B9.md M3 (pb_lt lt2)).kz K4).gr G6)
   refine qv rfl (vv_lenT (l := p0.Head.Points) (c := TPoint.cs) Tryz.underlying46 rfl B23)<|qv rfl (vv_leq (a := (p0.Head.Points.length : Int)) (b := 8) rfl rfl)<|qm rfl<|qpF rfl (vv_move rfl) (fun c8 => ?_) (fun c8 => ?_)
   · replace hm := iF c8 hm
     refine qk rfl<|qk rfl<|qk rfl<|qk rfl<|qk rfl<|qm rfl<|qm rfl ?_
     refine sd_nil<|block_n ?_
     exact ⟨rfl, false, sbq, hm, (kz0.gr G6)⟩
   replace hm := iT c8 hm
   refine qv rfl (vv_fieldAddr fa_48_0 rfl)<|qv rfl (vv_load1 (v := vp0_2) one_45 rfl B21 rfl)<|qm rfl ?_
   obtain ⟨x4, hx4, hm⟩ := bnd hm
   refine qe rfl (eC en_125 rfl (slices_ContainsFunc_9968_epoch_CheckPacket_1_w hx4 B22)) ?_
   rintro _ w7 ⟨rfl, G7⟩
   have z24 := G7.size
   refine qv rfl (vv_not rfl)<|qm rfl<|qm rfl<|sd_nil<|block_n ?_
   exact ⟨rfl, (!x4), sbq, hm, ((kz0.gr G6).gr G7)⟩
 clear hm; rintro a2 w5 ⟨hm, K5⟩
 have z14 := K5.size
 unfold epoch_CheckPacket_J2 at hm
 refine sw_seq<|qs 2 rfl<|qm rfl<|qv rfl (vv_not rfl)<|sd_done<|sw_cond rfl (fun c1 => ?_) (fun c1 => ?_)
 · replace hm := cnd_t c1 hm
   refine qs 1 rfl<|qm rfl<|qb ?_
   have X15 := (X13.kz K5)
   cases hm
   refine ⟨_, _, rfl, res_1 rfl (rv_tmp rfl), ?_⟩
   exact ⟨rfl, X15⟩
 replace hm := cnd_f c1 hm
 refine qu<|qs 1 rfl<|qm rfl<|sd_done<|sw_ret ?_
 have X16 := (X13.kz K5)
 cases hm
 refine ⟨_, _, rfl, res_1 rfl (rv_tmp rfl), ?_⟩
 exact ⟨rfl, X16⟩
theorem slices_Clone_109b_w {p0 vp0 zp0 gp0 op0 r} (hm : slices_Clone_109b p0 = some r) {w : World} (hp0 : Rd w zp0 gp0 op0 18 vp0 (p0.map TLabel.cs)) :
    Calls Tryz.prog 83 [vp0].toArray w fun e w' => ∃ v, e = .returned v ∧ (∃ ur0_s zr0_s gr0_s, v = ur0_s ∧ Own w' zr0_s gr0_s 92 18 ur0_s (r.map TLabel.cs) ∧ Hdn (zr0_s = 0 ∨ w.heap.size ≤ gr0_s) ∧ Gr w w') := by
 have lt1 := hp0.lth
 unfold slices_Clone_109b at hm
 refine calls_of_sw 8 Tryz.func83 rfl rfl rfl<|qs 1 rfl<|qm rfl<|sd_done<|sw_seq<|sw_seq ?_
 refine qg 2 rfl<|qm rfl ?_
 rcases rd_nilOr hp0 with ⟨ca2, hv2, hl2⟩ | ⟨aa2, ka2, ca2, hv2⟩
 · replace hm : (some []) = some r := by rw [hl2] at hm; exact hm
   refine qv rfl (vv_eqlNil Tryz.underlying29 rfl hv2)<|sd_done<|sw_condT rfl<|qs 1 rfl<|qm rfl<|sd_done ?_
   refine sw_ret<|then_r ?_
   cases hm
   refine ⟨_, _, rfl, res_1 rfl (rv_tmp rfl), ?_⟩
   exact ⟨(.slice none 0 0), 0, 0, rfl, (own_nil _ 0 92 18), ⟨.inl rfl⟩, (Gr.refl w)⟩
 skip
 refine qv rfl (vv_eqlNil Tryz.underlying29 rfl hv2)<|sd_done<|sw_condF rfl<|qu<|qs 4 rfl ?_
 refine qe rfl (ev_litT ([] : List TLabel) TLabel.cs bsl_29_0 rfl rfl (ws_of rfl) rfl rfl rfl) ?_
 rintro vw1 w1 ⟨gw1, hbw1, Ow1, G1⟩
 have z3 := G1.size
 have lt4 := Ow1.lth
 refine qm rfl ?_
 have B5 := (hp0.gr G1)
 obtain ⟨l1, hl1, hm⟩ := bnd hm
 refine qe rfl (ev_appT (l := ([] : List TLabel)) (m := p0) (c := TLabel.cs) apt_29 rfl rfl Ow1 B5 hl1 (by decide)) ?_
 rintro vw2 w2 ⟨zw2, gw2, Ow2, Aw2, qw2, rw2⟩
 have z6 := Aw2.size
 refine qm rfl<|sd_done<|sw_ret ?_
 have X7 := (((Gr.refl w).trans G1).ka Aw2 (tk1 ((.inr tk0) : 1 = 0 ∨ w.heap.size ≤ gw1)))
 cases hm
 refine ⟨_, _, rfl, res_1 rfl (rv_tmp rfl), ?_⟩
 exact ⟨vw2, zw2, gw2, rfl, Ow2, ⟨(pv_app (A := (fun x => w.heap.size ≤ x)) rw2 (.inr tk0))⟩, X7⟩
theorem epoch_Open_w {p0 p1 p2 vp1_1 zp1_1 gp1_1 op1_1 vp2_0 zp2_0 gp2_0 op2_0 vp2_2 zp2_2 gp2_2 op2_2 r} (hm : epoch_Open p0 p1 p2 = some r) {w : World} (hp1_1 : Rd w zp1_1 gp1_1 op1_1 18 vp1_1 (p1.Labels.map TLabel.cs)) (hp2_0 : Rd w zp2_0 gp2_0 op2_0 18 vp2_0 (p2.Items.map TItem.cs)) (hp2_2 : Rd w zp2_2 gp2_2 op2_2 2 vp2_2 (p2.Points.map TPoint.cs)) :
    Calls Tryz.prog 25 [.agg (TScheme.cs p0).toArray, .agg (TSecret.cs p1 vp1_1).toArray, .agg (THeader.cs p2 vp2_0 vp2_2).toArray].toArray w fun e w' => ∃ v, e = .returned v ∧ (v = .tuple [kv r.1, .int .i64 r.2].toArray ∧ Gr w w') := by
 have lt1 := hp1_1.lth
 have lt2 := hp2_0.lth
 have lt3 := hp2_2.lth
 unfold epoch_Open at hm
 refine calls_of_sw 27 Tryz.func25 rfl rfl rfl<|qs 5 rfl<|qe rfl (ev_box (cs := TScheme.cs p0) rfl rfl) ?_
 rintro _ w1 ⟨b1, rfl, hbw1, Bw1, G1⟩
 have z4 := G1.size
 have lt5 := Bw1.lt
 refine qe rfl (ev_box (cs := TSecret.cs p1 vp1_1) rfl rfl) ?_
 rintro _ w2 ⟨b2, rfl, hbw2, Bw2, G2⟩
 have z6 := G2.size
 have lt7 := Bw2.lt
 refine qe rfl (ev_box (cs := THeader.cs p2 vp2_0 vp2_2) rfl rfl) ?_
 rintro _ w3 ⟨b3, rfl, hbw3, Bw3, G3⟩
 have z8 := G3.size
 have lt9 := Bw3.lt
 refine qe rfl (ev_alloc (cs := kb k0) zv_23 rfl) ?_
 rintro _ w4 ⟨b4, rfl, hbw4, Bw4, G4⟩
 have z10 := G4.size
 have lt11 := Bw4.lt
 refine qm rfl<|qd 8 rfl ?_
 have Y1 := Gr.trans (Gr.trans G2 G3) G4
 have B12 := (Bw1.gr Y1)
 refine qv rfl (vv_loadW agg_28 rfl B12 rfl)<|sd_inl 33 Tryz.func61 rfl rfl rfl en_61 rfl rfl rfl rfl rfl<|qs 3 rfl<|qe rfl (ev_box (cs := TScheme.cs p0) rfl rfl) ?_
 rintro _ w5 ⟨b5, rfl, hbw5, Bw5, G5⟩
 have z13 := G5.size
 have lt14 := Bw5.lt
 refine qe rfl (ev_alloc (cs := [.nilFunc, .nilFunc, .nilFunc, .nilFunc]) zv_122 rfl) ?_
 rintro _ w6 ⟨b6, rfl, hbw6, Bw6, G6⟩
 have z15 := G6.size
 have lt16 := Bw6.lt
 refine qm rfl<|qd 3 rfl<|qv rfl (vv_build (cs := [.func (.func 121) #[] #[], .func (.func 137) #[] #[], .func (.func 53) #[] #[], .func (.func 138) #[] #[]]) bs_122 rfl rfl)<|qe rfl (ev_alloc (cs := [.nilFunc, .nilFunc, .nilFunc, .nilFunc]) zv_122 rfl) ?_
 rintro _ w7 ⟨b7, rfl, hbw7, Bw7, G7⟩
 have z17 := G7.size
 have lt18 := Bw7.lt
 refine qe rfl (ev_stW agg_122 rfl rfl rfl Bw7 rfl rfl) ?_
 rintro _ w8 ⟨Bw8, M8⟩
 have z19 := M8.size
 refine qd 8 rfl<|qv rfl (vv_build (cs := [.nilFunc, .nilFunc, .nilFunc, .nilFunc]) bs_122 rfl rfl)<|qv rfl (vv_loadM (vs := [.func (.func 121) #[] #[], .func (.func 137) #[] #[], .func (.func 53) #[] #[], .func (.func 138) #[] #[]]) agg_122 rfl Bw8 rfl rfl)<|qv rfl (vv_loadM (vs := [.func (.func 121) #[] #[], .func (.func 137) #[] #[], .func (.func 53) #[] #[], .func (.func 138) #[] #[]]) agg_122 rfl Bw8 rfl rfl)<|qv rfl (vv_loadM (vs := [.func (.func 121) #[] #[], .func (.func 137) #[] #[], .func (.func 53) #[] #[], .func (.func 138) #[] #[]]) agg_122 rfl Bw8 rfl rfl) ?_
 refine qv rfl (vv_build (cs := [.func (.func 139) #[] #[], .func (.func 140) #[] #[], .func (.func 50) #[] #[], .func (.func 49) #[] #[]]) bs_122 rfl rfl)<|qv rfl (vv_buildA (cs := [.nilFunc, .nilFunc, .nilFunc, .nilFunc, .func (.func 121) #[] #[], .func (.func 137) #[] #[], .func (.func 53) #[] #[], .func (.func 138) #[] #[], .func (.func 121) #[] #[], .func (.func 137) #[] #[], .func (.func 53) #[] #[], .func (.func 138) #[] #[], .func (.func 121) #[] #[], .func (.func 137) #[] #[], .func (.func 53) #[] #[], .func (.func 138) #[] #[], .func (.func 139) #[] #[], .func (.func 140) #[] #[], .func (.func 50) #[] #[], .func (.func 49) #[] #[]]) ba_206 rfl rfl)<|qe rfl (ev_alloc (cs := [.nilFunc, .nilFunc, .nilFunc, .nilFunc, .nilFunc, .nilFunc, .nilFunc, .nilFunc, .nilFunc, .nilFunc, .nilFunc, .nilFunc, .nilFunc, .nilFunc, .nilFunc, .nilFunc, .nilFunc, .nilFunc, .nilFunc, .nilFunc]) zv_206 rfl) ?_
 rintro _ w9 ⟨b9, rfl, hbw9, Bw9, G9⟩
 have z20 := G9.size
 have lt21 := Bw9.lt
 refine qe rfl (ev_stW agg_206 rfl rfl rfl Bw9 rfl rfl) ?_
 rintro _ w10 ⟨Bw10, M10⟩
 have z22 := M10.size
 refine sd_done<|sw_seq ?_
 have Y2 := Gr.trans (Gr.trans (Gr.trans (Gr.trans G1 Y1) G5) G6) G7
 have X23 := (((((Gr.refl w).trans Y2).md M8).trans G9).md M10)
 refine qj (β := Bool) (rg 14 9) (fun a1 => [(22, .bool a1)]) (fun a1 wr => (epoch_Open_J1 p0 p1 p2 a1 = some r) ∧ Kz [] w10 wr) ?_ ?_
 · refine qg 9 rfl<|qv rfl (vv_fieldAddr fa_28_0 rfl) ?_
   have Y3 := Gr.trans G6 G7
   have B86 := ((((Bw5.gr Y3).md M8).gr G9).md M10)
   refine qv rfl (vv_load1 (v := bv p0.Kind) one_5 rfl B86 rfl)<|qv rfl (vv_lssB (p := p0.Kind) (q := 1#8) rfl rfl)<|qp rfl (vv_move rfl) (fun c6 => ?_) (fun c6 => ?_)
   · replace hm := iT c6 hm
     refine qk rfl<|qk rfl<|qk rfl<|qk rfl<|qm rfl<|sd_nil ?_
     exact ⟨rfl, true, sbq, hm, kz0⟩
   replace hm := iF c6 hm
   refine qv rfl (vv_fieldAddr fa_28_0 rfl)<|qv rfl (vv_load1 (v := bv p0.Kind) one_5 rfl B86 rfl)<|qv rfl (vv_cvBI cv_5_3 rfl)<|qv rfl (vv_geq (a := un8 p0.Kind) (b := 5) rfl rfl)<|qm rfl<|sd_nil ?_
   exact ⟨rfl, (decide ((5 : Int) ≤ un8 p0.Kind)), sbq, hm, kz0⟩
 clear hm; rintro a1 w11 ⟨hm, K11⟩
 have z24 := K11.size
 unfold epoch_Open_J1 at hm
 refine sw_cond rfl (fun c1 => ?_) (fun c1 => ?_)
 · replace hm := cnd_t c1 hm
   refine qs 3 rfl<|qv rfl (vv_build (cs := [.nilFunc, .nilFunc, .nilFunc, .nilFunc]) bs_122 rfl rfl) ?_
   have B25 := (((((Bw6.gr G7).md M8).gr G9).md M10).kz K11)
   refine qe rfl (ev_stW agg_122 rfl rfl rfl B25 rfl rfl) ?_
   rintro _ w12 ⟨Bw12, M12⟩
   have z26 := M12.size
   refine qm rfl<|qb<|⟨_, _, rfl, res_2 rfl (rv_cellW agg_122 rfl Bw12 rfl) (rv_tmp rfl), ?_⟩
   refine qm rfl<|qm rfl<|qm rfl<|qe rfl (ev_alloc (cs := [.nilFunc, .nilFunc, .nilFunc, .nilFunc]) zv_122 rfl) ?_
   rintro _ w13 ⟨b13, rfl, hbw13, Bw13, G13⟩
   have z27 := G13.size
   have lt28 := Bw13.lt
   refine qe rfl (ev_stW agg_122 rfl rfl rfl Bw13 rfl rfl) ?_
   rintro _ w14 ⟨Bw14, M14⟩
   have z29 := M14.size
   refine qm rfl<|sd_done<|sw_seq<|qs 2 rfl<|qm rfl<|qv rfl (vv_neq (a := 2) (b := 0) rfl rfl) ?_
   refine sd_done<|sw_condT rfl<|qs 4 rfl<|qv rfl (vv_buildZ bz_23)<|qm rfl ?_
   have Y4 := Gr.trans (Gr.trans G5 G6) G7
   have B30 := ((((((((Bw4.gr Y4).md M8).gr G9).md M10).kz K11).md M12).gr G13).md M14)
   refine qe rfl (ev_stW agg_23 rfl rfl rfl B30 rfl rfl) ?_
   rintro _ w15 ⟨Bw15, M15⟩
   have z31 := M15.size
   refine qm rfl<|qb ?_
   have X32 := (((((X23.kz K11).md M12).trans G13).md M14).md M15)
   cases hm
   refine ⟨_, _, rfl, res_2 rfl (rv_cellW agg_23 rfl Bw15 rfl) (rv_tmp rfl), ?_⟩
   exact ⟨rfl, X32⟩
 replace hm := cnd_f c1 hm
 refine qu<|qs 6 rfl<|qv rfl (vv_fieldAddr fa_28_0 rfl) ?_
 have Y5 := Gr.trans G6 G7
 have B33 := (((((Bw5.gr Y5).md M8).gr G9).md M10).kz K11)
 refine qv rfl (vv_load1 (v := bv p0.Kind) one_5 rfl B33 rfl) ?_
 by_cases c2 : (un8 p0.Kind = 1 ∨ un8 p0.Kind = 2 ∨ un8 p0.Kind = 3)
 · replace hm := ite_t c2 hm
   refine qv rfl (vv_ixJ Tryz.underlying206 (agg_122).siz rfl rfl (by omega)) ?_
   have B34 := (Bw10.kz K11)
   refine qv rfl (vv_loadM (vs := [.func (.func 121) #[] #[], .func (.func 137) #[] #[], .func (.func 53) #[] #[], .func (.func 138) #[] #[]]) agg_122 rfl B34 (by rcases c2 with h | h | h <;> rw [h] <;> rfl) rfl)<|qe rfl (ev_alloc (cs := [.nilFunc, .nilFunc, .nilFunc, .nilFunc]) zv_122 rfl) ?_
   rintro _ w16 ⟨b16, rfl, hbw16, Bw16, G16⟩
   have z35 := G16.size
   have lt36 := Bw16.lt
   refine qe rfl (ev_stW agg_122 rfl rfl rfl Bw16 rfl rfl) ?_
   rintro _ w17 ⟨Bw17, M17⟩
   have z37 := M17.size
   refine sd_done<|sw_seq<|dw [([b6])] [] (.leaf [(0,10),(1,10),(2,10),(3,10),(4,0),(5,0),(6,10)]) ?_
   intro w18 G18 zw18
   refine sdz_leaf ?_
   have B38 := (Bw17.gr G18)
   refine dh 0 rfl rfl (fun w hS => vv_loadM (vs := [.func (.func 121) #[] #[], .func (.func 137) #[] #[], .func (.func 53) #[] #[], .func (.func 138) #[] #[]]) agg_122 rfl (Bx.kp B38 hS) rfl rfl)<|dh 0 rfl rfl (fun w hS => vv_fieldAddr fa_122_0 rfl)<|dh 0 rfl rfl (fun w hS => vv_load1 (v := .func (.func 121) #[] #[]) one_40 rfl (Bx.kp B38 hS) rfl) ?_
   have B39 := (((B33.gr G16).md M17).gr G18)
   refine dh 0 rfl rfl (fun w hS => vv_loadW agg_28 rfl (Bx.kp B39 hS) rfl) ?_
   obtain ⟨x2, hx2, hm⟩ := bnd hm
   refine qz [] rfl (ev_callV en_121 rfl rfl (cover_Check_w hx2)) ⟨fun _ => tk0, trivial⟩ ?_
   rintro _ w19 ⟨rfl, G19⟩
   have z40 := G19.size
   refine kG G19 ?_
   have Y6 := Gr.trans G18 G19
   have B41 := ((((((((Bw6.gr G7).md M8).gr G9).md M10).kz K11).gr G16).md M17).gr Y6)
   refine qz [(1, b6)] rfl (ev_stW agg_122 rfl rfl rfl B41 rfl rfl) ⟨fun _ => tk0, trivial⟩ ?_
   rintro _ w20 ⟨Bw20, M20⟩
   have z42 := M20.size
   refine kM M20 ?_
   have S43 := (((Kp.refl ([b6]) w18).gr G19).md M20)
   refine dn 0 rfl rfl S43<|sd_done<|sw_ret<|⟨_, _, rfl, res_2 rfl (rv_cellW agg_122 rfl Bw20 rfl) (rv_tmp rfl), ?_⟩
   refine qm rfl<|qm rfl<|qm rfl<|qe rfl (ev_alloc (cs := [.nilFunc, .nilFunc, .nilFunc, .nilFunc]) zv_122 rfl) ?_
   rintro _ w21 ⟨b21, rfl, hbw21, Bw21, G21⟩
   have z44 := G21.size
   have lt45 := Bw21.lt
   refine qe rfl (ev_stW agg_122 rfl rfl rfl Bw21 rfl rfl) ?_
   rintro _ w22 ⟨Bw22, M22⟩
   have z46 := M22.size
   refine qm rfl<|sd_done<|sw_seq<|qs 2 rfl<|qm rfl<|qv rfl (vv_neq (a := x2) (b := 0) rfl rfl) ?_
   refine sd_done<|sw_cond rfl (fun c3 => ?_) (fun c3 => ?_)
   · replace hm := iT c3 hm
     refine qs 4 rfl<|qv rfl (vv_buildZ bz_23)<|qm rfl ?_
     have Y7 := Gr.trans G5 Y5
     have B47 := (((((((((((Bw4.gr Y7).md M8).gr G9).md M10).kz K11).gr G16).md M17).gr Y6).md M20).gr G21).md M22)
     refine qe rfl (ev_stW agg_23 rfl rfl rfl B47 rfl rfl) ?_
     rintro _ w23 ⟨Bw23, M23⟩
     have z48 := M23.size
     refine qm rfl<|qb ?_
     have X49 := ((((((((X23.kz K11).trans G16).md M17).trans Y6).md M20).trans G21).md M22).md M23)
     cases hm
     refine ⟨_, _, rfl, res_2 rfl (rv_cellW agg_23 rfl Bw23 rfl) (rv_tmp rfl), ?_⟩
     exact ⟨rfl, X49⟩
   replace hm := iF c3 hm
   refine qu<|qs 10 rfl<|qv rfl (vv_fieldAddr fa_122_2 rfl)<|qv rfl (vv_load1 (v := .func (.func 53) #[] #[]) one_58 rfl Bw22 rfl) ?_
   have Y8 := Gr.trans G5 Y5
   have B50 := (((((((((((B12.gr Y8).md M8).gr G9).md M10).kz K11).gr G16).md M17).gr Y6).md M20).gr G21).md M22)
   refine qv rfl (vv_loadW agg_28 rfl B50 rfl) ?_
   have Y9 := Gr.trans (Gr.trans G3 G4) Y8
   have B51 := (((((((((((Bw2.gr Y9).md M8).gr G9).md M10).kz K11).gr G16).md M17).gr Y6).md M20).gr G21).md M22)
   refine qv rfl (vv_loadW agg_33 rfl B51 rfl) ?_
   have Y10 := Gr.trans G4 Y8
   have B52 := (((((((((((Bw3.gr Y10).md M8).gr G9).md M10).kz K11).gr G16).md M17).gr Y6).md M20).gr G21).md M22)
   refine qv rfl (vv_loadW agg_48 rfl B52 rfl) ?_
   have B53 := (((((((((((hp1_1.gr Y2).md M8 (pb_lt lt1)).gr G9).md M10 (pb_lt lt1)).kz K11).gr G16).md M17 (pb_lt lt1)).gr Y6).md M20 (pb_lt lt1)).gr G21).md M22 (pb_lt lt1))
   have B54 := (((((((((((hp2_0.gr Y2).md M8 (pb_lt lt2)).gr G9).md M10 (pb_lt lt2)).kz K11).gr G16).md M17 (pb_lt lt2)).gr Y6).md M20 (pb_lt lt2)).gr G21).md M22 (pb_lt lt2))
   have B55 := (((((((((((hp2_2.gr Y2).md M8 (pb_lt lt3)).gr G9).md M10 (pb_lt lt3)).kz K11).gr G16).md M17 (pb_lt lt3)).gr Y6).md M20 (pb_lt lt3)).gr G21).md M22 (pb_lt lt3))
   obtain ⟨x3, hx3, hm⟩ := bnd hm
   refine qe rfl (ev_callV en_53 rfl rfl (cover_Open_w hx3 B53 B54 B55)) ?_
   rintro _ w24 ⟨rfl, G24⟩
   have z56 := G24.size
   refine qm rfl<|qm rfl ?_
   have B57 := ((((((((((((Bw4.gr Y8).md M8).gr G9).md M10).kz K11).gr G16).md M17).gr Y6).md M20).gr G21).md M22).gr G24)
   refine qe rfl (ev_stW agg_23 rfl rfl rfl B57 rfl rfl) ?_
   rintro _ w25 ⟨Bw25, M25⟩
   have z58 := M25.size
   refine qm rfl<|sd_done<|sw_ret ?_
   have X59 := (((((((((X23.kz K11).trans G16).md M17).trans Y6).md M20).trans G21).md M22).trans G24).md M25)
   cases hm
   refine ⟨_, _, rfl, res_2 rfl (rv_cellW agg_23 rfl Bw25 rfl) (rv_tmp rfl), ?_⟩
   exact ⟨rfl, X59⟩
 replace hm := ite_f c2 hm
 by_cases c4 : (un8 p0.Kind = 4)
 · replace hm := ite_t c4 hm
   refine qv rfl (vv_ixJ Tryz.underlying206 (agg_122).siz rfl rfl (by omega)) ?_
   have B60 := (Bw10.kz K11)
   refine qv rfl (vv_loadM (vs := [.func (.func 139) #[] #[], .func (.func 140) #[] #[], .func (.func 50) #[] #[], .func (.func 49) #[] #[]]) agg_122 rfl B60 (by rw [c4]; rfl) rfl)<|qe rfl (ev_alloc (cs := [.nilFunc, .nilFunc, .nilFunc, .nilFunc]) zv_122 rfl) ?_
   rintro _ w26 ⟨b26, rfl, hbw26, Bw26, G26⟩
   have z61 := G26.size
   have lt62 := Bw26.lt
   refine qe rfl (ev_stW agg_122 rfl rfl rfl Bw26 rfl rfl) ?_
   rintro _ w27 ⟨Bw27, M27⟩
   have z63 := M27.size
   refine sd_done<|sw_seq<|dw [([b6])] [] (.leaf [(0,10),(1,10),(2,10),(3,10),(4,0),(5,0),(6,10)]) ?_
   intro w28 G28 zw28
   refine sdz_leaf ?_
   have B64 := (Bw27.gr G28)
   refine dh 0 rfl rfl (fun w hS => vv_loadM (vs := [.func (.func 139) #[] #[], .func (.func 140) #[] #[], .func (.func 50) #[] #[], .func (.func 49) #[] #[]]) agg_122 rfl (Bx.kp B64 hS) rfl rfl)<|dh 0 rfl rfl (fun w hS => vv_fieldAddr fa_122_0 rfl)<|dh 0 rfl rfl (fun w hS => vv_load1 (v := .func (.func 139) #[] #[]) one_40 rfl (Bx.kp B64 hS) rfl) ?_
   have B65 := (((B33.gr G26).md M27).gr G28)
   refine dh 0 rfl rfl (fun w hS => vv_loadW agg_28 rfl (Bx.kp B65 hS) rfl) ?_
   obtain ⟨x4, hx4, hm⟩ := bnd hm
   refine qz [] rfl (ev_callV en_139 rfl rfl (poly_Check_w hx4)) ⟨fun _ => tk0, trivial⟩ ?_
   rintro _ w29 ⟨rfl, G29⟩
   have z66 := G29.size
   refine kG G29 ?_
   have Y11 := Gr.trans G28 G29
   have B67 := ((((((((Bw6.gr G7).md M8).gr G9).md M10).kz K11).gr G26).md M27).gr Y11)
   refine qz [(1, b6)] rfl (ev_stW agg_122 rfl rfl rfl B67 rfl rfl) ⟨fun _ => tk0, trivial⟩ ?_
   rintro _ w30 ⟨Bw30, M30⟩
   have z68 := M30.size
   refine kM M30 ?_
   have S69 := (((Kp.refl ([b6]) w28).gr G29).md M30)
   refine dn 0 rfl rfl S69<|sd_done<|sw_ret<|⟨_, _, rfl, res_2 rfl (rv_cellW agg_122 rfl Bw30 rfl) (rv_tmp rfl), ?_⟩
   refine qm rfl<|qm rfl<|qm rfl<|qe rfl (ev_alloc (cs := [.nilFunc, .nilFunc, .nilFunc, .nilFunc]) zv_122 rfl) ?_
   rintro _ w31 ⟨b31, rfl, hbw31, Bw31, G31⟩
   have z70 := G31.size
   have lt71 := Bw31.lt
   refine qe rfl (ev_stW agg_122 rfl rfl rfl Bw31 rfl rfl) ?_
   rintro _ w32 ⟨Bw32, M32⟩
   have z72 := M32.size
   refine qm rfl<|sd_done<|sw_seq<|qs 2 rfl<|qm rfl<|qv rfl (vv_neq (a := x4) (b := 0) rfl rfl) ?_
   refine sd_done<|sw_cond rfl (fun c5 => ?_) (fun c5 => ?_)
   · replace hm := iT c5 hm
     refine qs 4 rfl<|qv rfl (vv_buildZ bz_23)<|qm rfl ?_
     have Y12 := Gr.trans G5 Y5
     have B73 := (((((((((((Bw4.gr Y12).md M8).gr G9).md M10).kz K11).gr G26).md M27).gr Y11).md M30).gr G31).md M32)
     refine qe rfl (ev_stW agg_23 rfl rfl rfl B73 rfl rfl) ?_
     rintro _ w33 ⟨Bw33, M33⟩
     have z74 := M33.size
     refine qm rfl<|qb ?_
     have X75 := ((((((((X23.kz K11).trans G26).md M27).trans Y11).md M30).trans G31).md M32).md M33)
     cases hm
     refine ⟨_, _, rfl, res_2 rfl (rv_cellW agg_23 rfl Bw33 rfl) (rv_tmp rfl), ?_⟩
     exact ⟨rfl, X75⟩
   replace hm := iF c5 hm
   refine qu<|qs 10 rfl<|qv rfl (vv_fieldAddr fa_122_2 rfl)<|qv rfl (vv_load1 (v := .func (.func 50) #[] #[]) one_58 rfl Bw32 rfl) ?_
   have Y13 := Gr.trans G5 Y5
   have B76 := (((((((((((B12.gr Y13).md M8).gr G9).md M10).kz K11).gr G26).md M27).gr Y11).md M30).gr G31).md M32)
   refine qv rfl (vv_loadW agg_28 rfl B76 rfl) ?_
   have Y14 := Gr.trans (Gr.trans G3 G4) Y13
   have B77 := (((((((((((Bw2.gr Y14).md M8).gr G9).md M10).kz K11).gr G26).md M27).gr Y11).md M30).gr G31).md M32)
   refine qv rfl (vv_loadW agg_33 rfl B77 rfl) ?_
   have Y15 := Gr.trans G4 Y13
   have B78 := (((((((((((Bw3.gr Y15).md M8).gr G9).md M10).kz K11).gr G26).md M27).gr Y11).md M30).gr G31).md M32)
   refine qv rfl (vv_loadW agg_48 rfl B78 rfl) ?_
   have B79 := (((((((((((hp1_1.gr Y2).md M8 (pb_lt lt1)).gr G9).md M10 (pb_lt lt1)).kz K11).gr G26).md M27 (pb_lt lt1)).gr Y11).md M30 (pb_lt lt1)).gr G31).md M32 (pb_lt lt1))
   have B80 := (((((((((((hp2_0.gr Y2).md M8 (pb_lt lt2)).gr G9).md M10 (pb_lt lt2)).kz K11).gr G26).md M27 (pb_lt lt2)).gr Y11).md M30 (pb_lt lt2)).gr G31).md M32 (pb_lt lt2))
   have B81 := (((((((((((hp2_2.gr Y2).md M8 (pb_lt lt3)).gr G9).md M10 (pb_lt lt3)).kz K11).gr G26).md M27 (pb_lt lt3)).gr Y11).md M30 (pb_lt lt3)).gr G31).md M32 (pb_lt lt3))
   obtain ⟨x5, hx5, hm⟩ := bnd hm
   refine qe rfl (ev_callV en_50 rfl rfl (poly_Open_w hx5 B79 B80 B81)) ?_
   rintro _ w34 ⟨rfl, G34⟩
   have z82 := G34.size
   refine qm rfl<|qm rfl ?_
   have B83 := ((((((((((((Bw4.gr Y13).md M8).gr G9).md M10).kz K11).gr G26).md M27).gr Y11).md M30).gr G31).md M32).gr G34)
   refine qe rfl (ev_stW agg_23 rfl rfl rfl B83 rfl rfl) ?_
   rintro _ w35 ⟨Bw35, M35⟩
   have z84 := M35.size
   refine qm rfl<|sd_done<|sw_ret ?_
   have X85 := (((((((((X23.kz K11).trans G26).md M27).trans Y11).md M30).trans G31).md M32).trans G34).md M35)
   cases hm
   refine ⟨_, _, rfl, res_2 rfl (rv_cellW agg_23 rfl Bw35 rfl) (rv_tmp rfl), ?_⟩
   exact ⟨rfl, X85⟩
 replace hm := ite_f c4 hm
 cases hm
theorem epoch_learn_w {p0 p1 p2 p3 p4 bp2 vp2_1 zp2_1 gp2_1 op2_1 vp3_2 zp3_2 gp3_2 op3_2 vp3_4 zp3_4 gp3_4 op3_4 vp3_39 zp3_39 gp3_39 op3_39 r} (hm : epoch_learn p0 p1 p2 p3 p4 = some r) {w : World} (hbp2 : Bx w bp2 78 (TReceiver.cs p2 vp2_1)) (hp2_1 : Rd w zp2_1 gp2_1 op2_1 18 vp2_1 (p2.Secret.Labels.map TLabel.cs)) (hp3_2 : Rd w zp3_2 gp3_2 op3_2 18 vp3_2 (p3.Head.Items.map TItem.cs)) (hp3_4 : Rd w zp3_4 gp3_4 op3_4 2 vp3_4 (p3.Head.Points.map TPoint.cs)) (hp3_39 : Rd w zp3_39 gp3_39 op3_39 1 vp3_39 (p3.Data.map bvc)) (ne0 : Hdn (zp2_1 = 0 ∨ gp2_1 ≠ bp2)) (ne1 : Hdn (zp3_2 = 0 ∨ gp3_2 ≠ bp2)) (ne2 : Hdn (zp3_4 = 0 ∨ gp3_4 ≠ bp2)) (ne3 : Hdn (zp3_39 = 0 ∨ gp3_39 ≠ bp2)) :
    Calls Tryz.prog 84 [.agg (TScheme.cs p0).toArray, .agg (TAir.cs p1).toArray, .pointer (some ⟨bp2, 0, none⟩), .agg (TPacket.cs p3 vp3_2 vp3_4 vp3_39).toArray, .int .i64 p4].toArray w fun e w' => ∃ v, e = .returned v ∧ (v = .int .i64 r.1 ∧ Bx w' bp2 78 (TReceiver.cs r.2 vp2_1) ∧ Kz [(1, bp2)] w w') := by
 have lt1 := hp2_1.lth
 have lt2 := hbp2.lt
 have lt3 := hp3_2.lth
 have lt4 := hp3_4.lth
 have lt5 := hp3_39.lth
 unfold epoch_learn at hm
 refine calls_of_sw 66 Tryz.func84 rfl rfl rfl<|qs 4 rfl<|qe rfl (ev_box (cs := TScheme.cs p0) rfl rfl) ?_
 rintro _ w1 ⟨b1, rfl, hbw1, Bw1, G1⟩
 have z6 := G1.size
 have lt7 := Bw1.lt
 refine qe rfl (ev_box (cs := TAir.cs p1) rfl rfl) ?_
 rintro _ w2 ⟨b2, rfl, hbw2, Bw2, G2⟩
 have z8 := G2.size
 have lt9 := Bw2.lt
 refine qe rfl (ev_box (cs := TPacket.cs p3 vp3_2 vp3_4 vp3_39) rfl rfl) ?_
 rintro _ w3 ⟨b3, rfl, hbw3, Bw3, G3⟩
 have z10 := G3.size
 have lt11 := Bw3.lt
 refine qm rfl<|sd_done<|sw_seq<|dw [([])] [] (.leaf [(0,10),(1,10),(2,10),(3,10),(4,10),(5,10),(6,10),(7,10)]) ?_
 intro w4 G4 zw4
 refine sdz_leaf<|dm 0 rfl rfl<|dh 0 rfl rfl (fun w hS => vv_fieldAddr fa_52_1 rfl) ?_
 have B12 := (Bw3.gr G4)
 refine dh 0 rfl rfl (fun w hS => vv_load1 (v := .int .i64 p3.Epoch) one_3 rfl (Bx.kp B12 hS) rfl) ?_
 obtain ⟨x1, hx1, hm⟩ := bnd hm
 refine dh 0 rfl rfl (fun w hS => vv_remI (a := p3.Epoch) (b := 2) rfl rfl hx1)<|dh 0 rfl rfl (fun w hS => vv_nilCheck rfl rfl)<|dh 0 rfl rfl (fun w hS => vv_fieldAddr fa_78_2 rfl) ?_
 obtain ⟨y2, hy2, hm⟩ := bnd hm
 refine dh 0 rfl rfl (fun w hS => vv_ixA (l := [p2.Slots.a0, p2.Slots.a1]) (i := x1) Tryz.underlying76 (agg_75).siz rfl rfl hy2 rfl)<|dm 0 rfl rfl<|sd_done<|sw_seq<|qs 6 rfl ?_
 have Y1 := Gr.trans G3 G4
 have B13 := (Bw2.gr Y1)
 refine qv rfl (vv_loadW agg_65 rfl B13 rfl)<|qm rfl<|qv rfl (vv_fieldAddr fa_52_1 rfl)<|qv rfl (vv_load1 (v := .int .i64 p3.Epoch) one_3 rfl B12 rfl) ?_
 obtain ⟨x3, hx3, hm⟩ := bnd hm
 refine qe rfl (eC en_95 rfl (epoch_timely_w hx3)) ?_
 rintro _ w5 ⟨rfl, G5⟩
 have z14 := G5.size
 refine qv rfl (vv_not rfl)<|sd_done<|sw_cond rfl (fun c1 => ?_) (fun c1 => ?_)
 · replace hm := cnd_t c1 hm
   refine qs 1 rfl<|qm rfl<|qb ?_
   have Y2 := Gr.trans (Gr.trans (Gr.trans G1 G2) Y1) G5
   have B15 := (hbp2.gr Y2)
   have X16 := ((Kz.refl [(1, bp2)] w).gr Y2)
   cases hm
   refine ⟨_, _, rfl, res_1 rfl (rv_tmp rfl), ?_⟩
   exact ⟨rfl, B15, X16⟩
 replace hm := cnd_f c1 hm
 refine qu<|sw_seq ?_
 have Y3 := Gr.trans (Gr.trans (Gr.trans G1 G2) Y1) G5
 have X17 := ((Kz.refl [(1, bp2)] w).gr Y3)
 refine qj (β := Bool) (rg 27 13) (fun a4 => [(39, .bool a4)]) (fun a4 wr => (epoch_learn_J1 p0 p2 p3 x1 a4 = some r) ∧ Kz [] w5 wr) ?_ ?_
 · refine dw [([])] [] (.leaf [(0,10),(1,10),(2,10),(3,10),(4,10),(5,10),(6,10),(7,10),(8,10),(9,10),(10,10),(11,10),(12,10)]) ?_
   intro w18 G18 zw18
   refine sdz_leaf<|dm 0 rfl rfl<|dh 0 rfl rfl (fun w hS => vv_nilCheck rfl rfl)<|dh 0 rfl rfl (fun w hS => vv_fieldAddr fa_75_0 rfl) ?_
   have B64 := ((hbp2.gr Y3).gr G18)
   refine dh 0 rfl rfl (fun w hS => vv_el1T (q := 0) (u := .bool y2.Full) one_4 rfl (rd_seg (o := 5) (sz := 18) (xs := [p2.Slots.a0, p2.Slots.a1].map TSlot.cs) (m := 2) (cap := 2) (Bx.kp B64 hS) (ws_map _ (fun _ => rfl) (fun _ => rfl)) rfl rfl) hy2 (by first | rfl | omega) rfl)<|qqF 0 rfl rfl (Kp.refl ([]) w18) (fun w hS => vv_move rfl) (fun c5 => ?_) (fun c5 => ?_)
   · replace hm := cnd_f c5 hm
     refine dx 0 rfl rfl<|dx 0 rfl rfl<|dx 0 rfl rfl<|dx 0 rfl rfl<|dx 0 rfl rfl<|dx 0 rfl rfl<|dx 0 rfl rfl ?_
     refine dm 0 rfl rfl<|sd_nil ?_
     exact ⟨rfl, false, sbq, hm, (kz0.gr G18)⟩
   replace hm := cnd_t c5 hm
   refine dm 0 rfl rfl<|dh 0 rfl rfl (fun w hS => vv_nilCheck rfl rfl)<|dh 0 rfl rfl (fun w hS => vv_fieldAddr fa_75_1 rfl)<|dh 0 rfl rfl (fun w hS => vv_el1T (q := 1) (u := .int .i64 y2.Epoch) one_3 rfl (rd_seg (o := 5) (sz := 18) (xs := [p2.Slots.a0, p2.Slots.a1].map TSlot.cs) (m := 2) (cap := 2) (Bx.kp B64 hS) (ws_map _ (fun _ => rfl) (fun _ => rfl)) rfl rfl) hy2 (by first | rfl | omega) rfl)<|dh 0 rfl rfl (fun w hS => vv_fieldAddr fa_52_1 rfl) ?_
   have B65 := ((B12.gr G5).gr G18)
   refine dh 0 rfl rfl (fun w hS => vv_load1 (v := .int .i64 p3.Epoch) one_3 rfl (Bx.kp B65 hS) rfl)<|dh 0 rfl rfl (fun w hS => vv_geq (a := y2.Epoch) (b := p3.Epoch) rfl rfl)<|dm 0 rfl rfl<|sd_nil ?_
   exact ⟨rfl, (decide (p3.Epoch ≤ y2.Epoch)), sbq, hm, (kz0.gr G18)⟩
 clear hm; rintro a4 w6 ⟨hm, K6⟩
 have z18 := K6.size
 unfold epoch_learn_J1 at hm
 refine sw_cond rfl (fun c2 => ?_) (fun c2 => ?_)
 · replace hm := cnd_t c2 hm
   refine qs 1 rfl<|qm rfl<|qb ?_
   have B19 := ((hbp2.gr Y3).kz K6)
   have X20 := (X17.kz K6)
   cases hm
   refine ⟨_, _, rfl, res_1 rfl (rv_tmp rfl), ?_⟩
   exact ⟨rfl, B19, X20⟩
 replace hm := cnd_f c2 hm
 refine qu ?_
 have X21 := (X17.kz K6)
 refine qj (β := W2 × Int × Nat) ([12, 13] ++ rg 40 11) (fun ⟨a6, a7, bq5⟩ => [(12, .pointer (some ⟨bq5, 0, none⟩)), (13, .int .i64 a7)]) (fun ⟨a6, a7, bq5⟩ wr => (epoch_learn_J2 p2 p3 x1 a6 a7 = some r) ∧ Bx wr bq5 23 (kb a6) ∧ w6.heap.size ≤ bq5 ∧ Kz [] w6 wr) ?_ ?_
 · refine dw [([])] [] (.fork [(0,10),(1,10),(2,10),(3,10),(4,10),(5,10),(6,10)] (.leaf [(7,0),(8,10),(9,10),(10,10),(11,0),(12,0),(13,10)]) (.leaf [(11,0),(7,0),(8,10),(9,10),(10,10),(12,0),(13,10)])) ?_
   intro w11 G11 zw11
   refine sdz_fork ?_
   have Y4 := Gr.trans (Gr.trans G2 Y1) G5
   have B40 := (((Bw1.gr Y4).kz K6).gr G11)
   refine dh 0 rfl rfl (fun w hS => vv_loadW agg_28 rfl (Bx.kp B40 hS) rfl)<|dm 0 rfl rfl<|dh 0 rfl rfl (fun w hS => vv_nilCheck rfl rfl)<|dh 0 rfl rfl (fun w hS => vv_fieldAddr fa_78_0 rfl) ?_
   have B41 := (((hbp2.gr Y3).kz K6).gr G11)
   refine dh 0 rfl rfl (fun w hS => vv_loadM (vs := TSecret.cs p2.Secret vp2_1) agg_33 rfl (Bx.kp B41 hS) rfl rfl)<|dh 0 rfl rfl (fun w hS => vv_fieldAddr fa_52_2 rfl) ?_
   have B42 := (((B12.gr G5).kz K6).gr G11)
   refine dh 0 rfl rfl (fun w hS => vv_loadM (vs := THeader.cs p3.Head vp3_2 vp3_4) agg_48 rfl (Bx.kp B42 hS) rfl rfl)<|sd_fork ?_ ?_
   · refine sdz_leaf ?_
     have B43 := (((hp2_1.gr Y3).kz K6).gr G11)
     have B44 := (((hp3_2.gr Y3).kz K6).gr G11)
     have B45 := (((hp3_4.gr Y3).kz K6).gr G11)
     obtain ⟨x9, hx9, hm⟩ := bnd hm
     refine qz [] rfl (eC en_25 rfl (epoch_Open_w hx9 B43 B44 B45)) ⟨fun _ => tk0, trivial⟩ ?_
     rintro _ w12 ⟨rfl, G12⟩
     have z46 := G12.size
     refine kG G12 ?_
     have S47 := ((Kp.refl ([]) w11).gr G12)
     refine dn 0 rfl rfl S47<|dn 0 rfl rfl S47<|dn 0 rfl rfl S47<|qz [] rfl (ev_alloc (cs := kb k0) zv_23 rfl) ⟨fun _ => tk0, trivial⟩ ?_
     rintro _ w13 ⟨b13, rfl, hbw13, Bw13, G13⟩
     have z48 := G13.size
     have lt49 := Bw13.lt
     refine kG G13<|qz [(1, b13)] rfl (ev_stW agg_23 rfl rfl rfl Bw13 rfl rfl) ⟨fun _ => tk0, trivial⟩ ?_
     rintro _ w14 ⟨Bw14, M14⟩
     have z50 := M14.size
     refine kM M14 ?_
     have S51 := ((S47.gr G13).md M14)
     refine dn 0 rfl rfl S51<|sd_nil ?_
     exact ⟨rfl, ⟨x9.1, x9.2, b13⟩, sbq, hm, Bw14, (by omega), ((((kz0.gr G11).gr G12).gr G13).md M14)⟩
   refine sdz_leaf<|qz [] rfl (ev_alloc (cs := kb k0) zv_23 rfl) ⟨fun _ => tk0, trivial⟩ ?_
   rintro _ w15 ⟨b15, rfl, hbw15, Bw15, G15⟩
   have z53 := G15.size
   have lt54 := Bw15.lt
   refine kG G15 ?_
   have Y5 := Gr.trans G11 G15
   have B55 := (((hp2_1.gr Y3).kz K6).gr Y5)
   have B56 := (((hp3_2.gr Y3).kz K6).gr Y5)
   have B57 := (((hp3_4.gr Y3).kz K6).gr Y5)
   obtain ⟨x10, hx10, hm⟩ := bnd hm
   refine qz [] rfl (eC en_25 rfl (epoch_Open_w hx10 B55 B56 B57)) ⟨fun _ => tk0, trivial⟩ ?_
   rintro _ w16 ⟨rfl, G16⟩
   have z58 := G16.size
   refine kG G16 ?_
   have S59 := (((Kp.refl ([]) w11).gr G15).gr G16)
   refine dn 0 rfl rfl S59<|dn 0 rfl rfl S59<|dn 0 rfl rfl S59 ?_
   have B60 := (Bw15.gr G16)
   refine qz [(1, b15)] rfl (ev_stW agg_23 rfl rfl rfl B60 rfl rfl) ⟨fun _ => tk0, trivial⟩ ?_
   rintro _ w17 ⟨Bw17, M17⟩
   have z61 := M17.size
   refine kM M17 ?_
   have S62 := (S59.md M17)
   refine dn 0 rfl rfl S62<|sd_nil ?_
   exact ⟨rfl, ⟨x10.1, x10.2, b15⟩, sbq, hm, Bw17, (by omega), (((kz0.gr Y5).gr G16).md M17)⟩
 clear hm; rintro ⟨a6, a7, bq5⟩ w7 ⟨hm, Fw7_0, Fw7_1, K7⟩
 have z22 := K7.size
 have lt23 := Fw7_0.lt
 unfold epoch_learn_J2 at hm
 refine sw_seq<|qs 2 rfl<|qm rfl<|qv rfl (vv_neq (a := a7) (b := 0) rfl rfl)<|sd_done<|sw_cond rfl (fun c3 => ?_) (fun c3 => ?_)
 · replace hm := iT c3 hm
   refine qs 2 rfl<|qm rfl<|qm rfl<|sd_done<|sw_ret<|then_r ?_
   have B24 := (((hbp2.gr Y3).kz K6).kz K7)
   have X25 := (X21.kz K7)
   cases hm
   refine ⟨_, _, rfl, res_1 rfl (rv_tmp rfl), ?_⟩
   exact ⟨rfl, B24, X25⟩
 replace hm := iF c3 hm
 refine qu<|sw_seq<|sw_seq<|dw [([])] [] (.leaf [(0,10),(1,10),(3,10),(4,10),(2,0),(5,10)]) ?_
 intro w8 G8 zw8
 refine sdz_leaf ?_
 have B26 := (Fw7_0.gr G8)
 refine dh 0 rfl rfl (fun w hS => vv_loadW agg_23 rfl (Bx.kp B26 hS) rfl) ?_
 have B27 := ((((B12.gr G5).kz K6).kz K7).gr G8)
 refine dh 0 rfl rfl (fun w hS => vv_loadW agg_52 rfl (Bx.kp B27 hS) rfl)<|dh 0 rfl rfl (fun w hS => vv_fieldAddr fa_52_6 rfl)<|dh 0 rfl rfl (fun w hS => vv_loadM (vs := kb p3.Mac) agg_23 rfl (Bx.kp B27 hS) rfl rfl) ?_
 have B28 := ((((hp3_2.gr Y3).kz K6).kz K7).gr G8)
 have B29 := ((((hp3_4.gr Y3).kz K6).kz K7).gr G8)
 have B30 := ((((hp3_39.gr Y3).kz K6).kz K7).gr G8)
 obtain ⟨x8, hx8, hm⟩ := bnd hm
 refine qz [] rfl (eC en_74 rfl (epoch_headMac_w hx8 B28 B29 B30)) ⟨fun _ => tk0, trivial⟩ ?_
 rintro _ w9 ⟨rfl, G9⟩
 have z31 := G9.size
 refine kG G9 ?_
 have S32 := ((Kp.refl ([]) w8).gr G9)
 refine qh 0 rfl rfl S32 (fun w hS => vv_neqS (cf := kb) (a := x8) (b := p3.Mac) eqt_23 rfl rfl rfl rfl (fun h => kb_inj h))<|sd_done<|sw_cond rfl (fun c4 => ?_) (fun c4 => ?_)
 · replace hm := iT c4 hm
   refine qs 1 rfl<|qm rfl<|qb ?_
   have Y6 := Gr.trans G8 G9
   have B33 := ((((hbp2.gr Y3).kz K6).kz K7).gr Y6)
   have X34 := ((X21.kz K7).gr Y6)
   cases hm
   refine ⟨_, _, rfl, res_1 rfl (rv_tmp rfl), ?_⟩
   exact ⟨rfl, B33, X34⟩
 replace hm := iF c4 hm
 refine qu<|qs 7 rfl<|qm rfl<|qv rfl (vv_fieldAddr fa_52_1 rfl) ?_
 have B35 := (B27.gr G9)
 refine qv rfl (vv_load1 (v := .int .i64 p3.Epoch) one_3 rfl B35 rfl) ?_
 have B36 := (B26.gr G9)
 refine qv rfl (vv_loadW agg_23 rfl B36 rfl)<|qv rfl (vv_build (cs := TSlot.cs (TSlot.mk true p3.Epoch a6)) bs_75 rfl (fill_M rfl rfl rfl (fill_M rfl rfl rfl (fill_M rfl rfl rfl (by kernel_rfl)))))<|qv rfl (vv_nilCheck rfl rfl) ?_
 have Y7 := Gr.trans G8 G9
 have B37 := ((((hbp2.gr Y3).kz K6).kz K7).gr Y7)
 refine qe rfl (ev_stIx (sz := 18) (o := 5) (q := 0) (l := [p2.Slots.a0, p2.Slots.a1]) (c := TSlot.cs) (a' := (TSlot.mk true p3.Epoch a6)) (vs := TSlot.cs (TSlot.mk true p3.Epoch a6)) (cs' := TReceiver.cs (TReceiver.mk p2.Secret p2.Ahead (TA2_Slot.mk (if x1 = 0 then (TSlot.mk true p3.Epoch a6) else p2.Slots.a0) (if x1 = 0 then p2.Slots.a1 else (TSlot.mk true p3.Epoch a6)))) vp2_1) (agg_75).siz rfl rfl rfl rfl rfl B37 (ws_map _ (fun _ => rfl) (fun _ => rfl)) rfl rfl hy2 (by first | rfl | omega) rfl rfl (set2 hy2) rfl) ?_
 rintro _ w10 ⟨Bw10, M10⟩
 have z38 := M10.size
 refine qd 1 rfl<|qm rfl<|sd_done<|sw_ret ?_
 have X39 := (((X21.kz K7).gr Y7).md M10)
 cases hm
 refine ⟨_, _, rfl, res_1 rfl (rv_tmp rfl), ?_⟩
 exact ⟨rfl, Bw10, X39⟩
theorem epoch_read_w {p0 p1 p2 p3 vp1_1 zp1_1 gp1_1 op1_1 vp2_2 zp2_2 gp2_2 op2_2 vp2_4 zp2_4 gp2_4 op2_4 vp2_39 zp2_39 gp2_39 op2_39 r} (hm : epoch_read p0 p1 p2 p3 = some r) {w : World} (hp1_1 : Rd w zp1_1 gp1_1 op1_1 18 vp1_1 (p1.Secret.Labels.map TLabel.cs)) (hp2_2 : Rd w zp2_2 gp2_2 op2_2 18 vp2_2 (p2.Head.Items.map TItem.cs)) (hp2_4 : Rd w zp2_4 gp2_4 op2_4 2 vp2_4 (p2.Head.Points.map TPoint.cs)) (hp2_39 : Rd w zp2_39 gp2_39 op2_39 1 vp2_39 (p2.Data.map bvc)) :
    Calls Tryz.prog 85 [.agg (TAir.cs p0).toArray, .agg (TReceiver.cs p1 vp1_1).toArray, .agg (TPacket.cs p2 vp2_2 vp2_4 vp2_39).toArray, .int .i64 p3].toArray w fun e w' => ∃ v, e = .returned v ∧ (∃ ur0_s zr0_s gr0_s, v = .tuple [ur0_s, .int .i64 r.2].toArray ∧ Own w' zr0_s gr0_s 5 1 ur0_s (r.1.map bvc) ∧ Hdn (zr0_s = 0 ∨ w.heap.size ≤ gr0_s) ∧ Gr w w') := by
 have lt1 := hp1_1.lth
 have lt2 := hp2_2.lth
 have lt3 := hp2_4.lth
 have lt4 := hp2_39.lth
 unfold epoch_read at hm
 refine calls_of_sw 74 Tryz.func85 rfl rfl rfl<|qs 5 rfl<|qe rfl (ev_box (cs := TAir.cs p0) rfl rfl) ?_
 rintro _ w1 ⟨b1, rfl, hbw1, Bw1, G1⟩
 have z5 := G1.size
 have lt6 := Bw1.lt
 refine qe rfl (ev_box (cs := TReceiver.cs p1 vp1_1) rfl rfl) ?_
 rintro _ w2 ⟨b2, rfl, hbw2, Bw2, G2⟩
 have z7 := G2.size
 have lt8 := Bw2.lt
 refine qe rfl (ev_box (cs := TPacket.cs p2 vp2_2 vp2_4 vp2_39) rfl rfl) ?_
 rintro _ w3 ⟨b3, rfl, hbw3, Bw3, G3⟩
 have z9 := G3.size
 have lt10 := Bw3.lt
 refine qm rfl<|qm rfl<|qd 10 rfl ?_
 have Y1 := Gr.trans G2 G3
 have B11 := (Bw1.gr Y1)
 refine qv rfl (vv_loadW agg_65 rfl B11 rfl)<|qm rfl<|qv rfl (vv_fieldAddr fa_52_3 rfl)<|qv rfl (vv_load1 (v := bv p2.Low) one_5 rfl Bw3 rfl) ?_
 obtain ⟨x1, hx1, hm⟩ := bnd hm
 refine qe rfl (eC en_94 rfl (epoch_period_w hx1)) ?_
 rintro _ w4 ⟨rfl, G4⟩
 have z12 := G4.size
 refine qm rfl<|qm rfl<|qm rfl<|qm rfl<|qm rfl<|sd_done<|sw_seq ?_
 refine qs 2 rfl<|qm rfl<|qv rfl (vv_not rfl)<|sd_done<|sw_cond rfl (fun c1 => ?_) (fun c1 => ?_)
 · replace hm := cnd_t c1 hm
   refine qs 2 rfl<|qm rfl<|qm rfl<|sd_done<|sw_ret<|then_r ?_
   have Y2 := Gr.trans (Gr.trans G1 Y1) G4
   have X13 := ((Gr.refl w).trans Y2)
   cases hm
   refine ⟨_, _, rfl, res_2 rfl (rv_tmp rfl) (rv_tmp rfl), ?_⟩
   exact ⟨(.slice none 0 0), 0, 0, rfl, (own_nil _ 0 5 1), ⟨.inl rfl⟩, X13⟩
 replace hm := cnd_f c1 hm
 refine qu<|qs 8 rfl<|qm rfl<|qv rfl (vv_fieldAddr fa_65_0 rfl) ?_
 have B14 := (B11.gr G4)
 refine qv rfl (vv_load1 (v := .int .i64 p0.Epoch) one_3 rfl B14 rfl)<|qv rfl (vv_fieldAddr fa_65_1 rfl)<|qv rfl (vv_load1 (v := .int .i64 p0.Word) one_3 rfl B14 rfl) ?_
 obtain ⟨x2, hx2, hm⟩ := bnd hm
 refine qv rfl (vv_quoI (a := p0.Epoch) (b := p0.Word) rfl rfl hx2) ?_
 obtain ⟨x3, hx3, hm⟩ := bnd hm
 refine qv rfl (vv_quoI (a := x1.1) (b := x2) rfl rfl hx3)<|qm rfl<|qd 7 rfl<|qm rfl ?_
 obtain ⟨x4, hx4, hm⟩ := bnd hm
 refine qv rfl (vv_remI (a := x3) (b := 2) rfl rfl hx4)<|qv rfl (vv_fieldAddr fa_78_2 rfl) ?_
 obtain ⟨y5, hy5, hm⟩ := bnd hm
 refine qv rfl (vv_ixA (l := [p1.Slots.a0, p1.Slots.a1]) (i := x4) Tryz.underlying76 (agg_75).siz rfl rfl hy5 rfl) ?_
 have Y3 := Gr.trans G3 G4
 have B15 := (Bw2.gr Y3)
 refine qv rfl (vv_elWT agg_75 rfl (rd_seg (o := 5) (sz := 18) (xs := [p1.Slots.a0, p1.Slots.a1].map TSlot.cs) (m := 2) (cap := 2) B15 (ws_map _ (fun _ => rfl) (fun _ => rfl)) rfl rfl) hy5 (by first | rfl | omega))<|qe rfl (ev_alloc (cs := TSlot.cs (TSlot.mk false 0 k0)) zv_75 rfl) ?_
 rintro _ w5 ⟨b5, rfl, hbw5, Bw5, G5⟩
 have z16 := G5.size
 have lt17 := Bw5.lt
 refine qe rfl (ev_stW agg_75 rfl rfl rfl Bw5 rfl rfl) ?_
 rintro _ w6 ⟨Bw6, M6⟩
 have z18 := M6.size
 refine sd_done<|sw_seq ?_
 have Y4 := Gr.trans (Gr.trans (Gr.trans G1 Y1) G4) G5
 have X19 := (((Gr.refl w).trans Y4).md M6)
 refine qj (β := Bool) (rg 39 9) (fun a6 => [(47, .bool a6)]) (fun a6 wr => (epoch_read_J1 p2 x1 y5 a6 = some r) ∧ Kz [] w6 wr) ?_ ?_
 · refine qg 9 rfl<|qv rfl (vv_fieldAddr fa_75_0 rfl)<|qv rfl (vv_load1 (v := .bool y5.Full) one_4 rfl Bw6 rfl)<|qv rfl (vv_not rfl)<|qp rfl (vv_move rfl) (fun c5 => ?_) (fun c5 => ?_)
   · replace hm := cnd_t c5 hm
     refine qk rfl<|qk rfl<|qk rfl<|qk rfl<|qm rfl<|sd_nil ?_
     exact ⟨rfl, true, sbq, hm, kz0⟩
   replace hm := cnd_f c5 hm
   refine qv rfl (vv_fieldAddr fa_75_1 rfl)<|qv rfl (vv_load1 (v := .int .i64 y5.Epoch) one_3 rfl Bw6 rfl)<|qm rfl<|qv rfl (vv_neq (a := y5.Epoch) (b := x3) rfl rfl)<|qm rfl<|sd_nil ?_
   exact ⟨rfl, (decide (y5.Epoch ≠ x3)), sbq, hm, kz0⟩
 clear hm; rintro a6 w7 ⟨hm, K7⟩
 have z20 := K7.size
 unfold epoch_read_J1 at hm
 refine sw_cond rfl (fun c2 => ?_) (fun c2 => ?_)
 · replace hm := cnd_t c2 hm
   refine qs 2 rfl<|qm rfl<|qm rfl<|sd_done<|sw_ret<|then_r ?_
   have X21 := (X19.kz K7)
   cases hm
   refine ⟨_, _, rfl, res_2 rfl (rv_tmp rfl) (rv_tmp rfl), ?_⟩
   exact ⟨(.slice none 0 0), 0, 0, rfl, (own_nil _ 0 5 1), ⟨.inl rfl⟩, X21⟩
 replace hm := cnd_f c2 hm
 refine qu<|qs 6 rfl<|qv rfl (vv_fieldAddr fa_75_2 rfl) ?_
 have B22 := (Bw6.kz K7)
 refine qv rfl (vv_loadM (vs := kb y5.Key) agg_23 rfl B22 rfl rfl)<|qm rfl ?_
 obtain ⟨x7, hx7, hm⟩ := bnd hm
 refine qe rfl (eC en_17 rfl (epoch_Word_w hx7)) ?_
 rintro _ w8 ⟨rfl, G8⟩
 have z23 := G8.size
 refine qe rfl (ev_alloc (cs := kb k0) zv_23 rfl) ?_
 rintro _ w9 ⟨b9, rfl, hbw9, Bw9, G9⟩
 have z24 := G9.size
 have lt25 := Bw9.lt
 refine qe rfl (ev_stW agg_23 rfl rfl rfl Bw9 rfl rfl) ?_
 rintro _ w10 ⟨Bw10, M10⟩
 have z26 := M10.size
 refine sd_done ?_
 have Y5 := Gr.trans G8 G9
 have X27 := (((X19.kz K7).trans Y5).md M10)
 refine qj (β := W2 × Int × Nat) ([15, 16] ++ rg 52 7) (fun ⟨a9, a10, bq8⟩ => [(15, .pointer (some ⟨bq8, 0, none⟩)), (16, .int .i64 a10)]) (fun ⟨a9, a10, bq8⟩ wr => (epoch_read_J2 p2 x7 a9 a10 = some r) ∧ Bx wr bq8 23 (kb a9) ∧ w10.heap.size ≤ bq8 ∧ Kz [] w10 wr) ?_ ?_
 · refine dw [([])] [] (.fork [(0,10),(1,10)] (.fork [(2,0)] (.leaf [(3,0),(4,10),(5,10),(6,10),(7,0),(8,0),(9,10)]) (.leaf [(7,0),(3,0),(4,10),(5,10),(6,10),(8,0),(9,10)])) (.leaf [(7,0),(2,0),(3,0),(4,10),(5,10),(6,10),(8,0),(9,10)])) ?_
   intro w13 G13 zw13
   refine sdz_fork ?_
   have B38 := (Bw10.gr G13)
   refine dh 0 rfl rfl (fun w hS => vv_loadW agg_23 rfl (Bx.kp B38 hS) rfl) ?_
   have Y6 := Gr.trans G4 G5
   have B39 := ((((((Bw3.gr Y6).md M6).kz K7).gr Y5).md M10).gr G13)
   refine dh 0 rfl rfl (fun w hS => vv_loadW agg_52 rfl (Bx.kp B39 hS) rfl)<|sd_fork ?_ ?_
   · refine sdz_fork ?_
     have B40 := ((((((hp2_2.gr Y4).md M6 (pb_lt lt2)).kz K7).gr Y5).md M10 (pb_lt lt2)).gr G13)
     have B41 := ((((((hp2_4.gr Y4).md M6 (pb_lt lt3)).kz K7).gr Y5).md M10 (pb_lt lt3)).gr G13)
     have B42 := ((((((hp2_39.gr Y4).md M6 (pb_lt lt4)).kz K7).gr Y5).md M10 (pb_lt lt4)).gr G13)
     obtain ⟨x12, hx12, hm⟩ := bnd hm
     refine qz [] rfl (eC en_78 rfl (epoch_body_w hx12 B40 B41 B42)) ⟨fun _ => tk0, trivial⟩ ?_
     rintro u14_r0_s w14 ⟨_, z14_r0_s, g14_r0_s, rfl, O14_r0_s, f14_r0_s, G14⟩
     have z43 := G14.size
     have lt44 := O14_r0_s.lth
     refine kG G14<|sd_fork ?_ ?_
     · refine sdz_leaf ?_
       obtain ⟨x13, hx13, hm⟩ := bnd hm
       refine qz [] rfl (eC en_77 rfl (cipher_Mac_w hx13 (Own.rd O14_r0_s))) ⟨fun _ => tk0, trivial⟩ ?_
       rintro _ w15 ⟨rfl, G15⟩
       have z45 := G15.size
       refine kG G15 ?_
       have S46 := (((Kp.refl ([]) w13).gr G14).gr G15)
       refine dn 0 rfl rfl S46<|dn 0 rfl rfl S46<|dn 0 rfl rfl S46<|qz [] rfl (ev_alloc (cs := kb k0) zv_23 rfl) ⟨fun _ => tk0, trivial⟩ ?_
       rintro _ w16 ⟨b16, rfl, hbw16, Bw16, G16⟩
       have z47 := G16.size
       have lt48 := Bw16.lt
       refine kG G16<|qz [(1, b16)] rfl (ev_stW agg_23 rfl rfl rfl Bw16 rfl rfl) ⟨fun _ => tk0, trivial⟩ ?_
       rintro _ w17 ⟨Bw17, M17⟩
       have z49 := M17.size
       refine kM M17 ?_
       have S50 := ((S46.gr G16).md M17)
       refine dn 0 rfl rfl S50<|sd_nil ?_
       exact ⟨rfl, ⟨x13.1, x13.2, b16⟩, sbq, hm, Bw17, (by omega), (((((kz0.gr G13).gr G14).gr G15).gr G16).md M17)⟩
     refine sdz_leaf<|qz [] rfl (ev_alloc (cs := kb k0) zv_23 rfl) ⟨fun _ => tk0, trivial⟩ ?_
     rintro _ w18 ⟨b18, rfl, hbw18, Bw18, G18⟩
     have z52 := G18.size
     have lt53 := Bw18.lt
     refine kG G18 ?_
     have B54 := (O14_r0_s.gr G18)
     obtain ⟨x14, hx14, hm⟩ := bnd hm
     refine qz [] rfl (eC en_77 rfl (cipher_Mac_w hx14 (Own.rd B54))) ⟨fun _ => tk0, trivial⟩ ?_
     rintro _ w19 ⟨rfl, G19⟩
     have z55 := G19.size
     refine kG G19 ?_
     have S56 := ((((Kp.refl ([]) w13).gr G14).gr G18).gr G19)
     refine dn 0 rfl rfl S56<|dn 0 rfl rfl S56<|dn 0 rfl rfl S56 ?_
     have B57 := (Bw18.gr G19)
     refine qz [(1, b18)] rfl (ev_stW agg_23 rfl rfl rfl B57 rfl rfl) ⟨fun _ => tk0, trivial⟩ ?_
     rintro _ w20 ⟨Bw20, M20⟩
     have z58 := M20.size
     refine kM M20 ?_
     have S59 := (S56.md M20)
     refine dn 0 rfl rfl S59<|sd_nil ?_
     exact ⟨rfl, ⟨x14.1, x14.2, b18⟩, sbq, hm, Bw20, (by omega), (((((kz0.gr G13).gr G14).gr G18).gr G19).md M20)⟩
   refine sdz_leaf<|qz [] rfl (ev_alloc (cs := kb k0) zv_23 rfl) ⟨fun _ => tk0, trivial⟩ ?_
   rintro _ w21 ⟨b21, rfl, hbw21, Bw21, G21⟩
   have z61 := G21.size
   have lt62 := Bw21.lt
   refine kG G21 ?_
   have Y7 := Gr.trans G13 G21
   have B63 := ((((((hp2_2.gr Y4).md M6 (pb_lt lt2)).kz K7).gr Y5).md M10 (pb_lt lt2)).gr Y7)
   have B64 := ((((((hp2_4.gr Y4).md M6 (pb_lt lt3)).kz K7).gr Y5).md M10 (pb_lt lt3)).gr Y7)
   have B65 := ((((((hp2_39.gr Y4).md M6 (pb_lt lt4)).kz K7).gr Y5).md M10 (pb_lt lt4)).gr Y7)
   obtain ⟨x15, hx15, hm⟩ := bnd hm
   refine qz [] rfl (eC en_78 rfl (epoch_body_w hx15 B63 B64 B65)) ⟨fun _ => tk0, trivial⟩ ?_
   rintro u22_r0_s w22 ⟨_, z22_r0_s, g22_r0_s, rfl, O22_r0_s, f22_r0_s, G22⟩
   have z66 := G22.size
   have lt67 := O22_r0_s.lth
   refine kG G22 ?_
   obtain ⟨x16, hx16, hm⟩ := bnd hm
   refine qz [] rfl (eC en_77 rfl (cipher_Mac_w hx16 (Own.rd O22_r0_s))) ⟨fun _ => tk0, trivial⟩ ?_
   rintro _ w23 ⟨rfl, G23⟩
   have z68 := G23.size
   refine kG G23 ?_
   have S69 := ((((Kp.refl ([]) w13).gr G21).gr G22).gr G23)
   refine dn 0 rfl rfl S69<|dn 0 rfl rfl S69<|dn 0 rfl rfl S69 ?_
   have B70 := ((Bw21.gr G22).gr G23)
   refine qz [(1, b21)] rfl (ev_stW agg_23 rfl rfl rfl B70 rfl rfl) ⟨fun _ => tk0, trivial⟩ ?_
   rintro _ w24 ⟨Bw24, M24⟩
   have z71 := M24.size
   refine kM M24 ?_
   have S72 := (S69.md M24)
   refine dn 0 rfl rfl S72<|sd_nil ?_
   exact ⟨rfl, ⟨x16.1, x16.2, b21⟩, sbq, hm, Bw24, (by omega), ((((kz0.gr Y7).gr G22).gr G23).md M24)⟩
 clear hm; rintro ⟨a9, a10, bq8⟩ w11 ⟨hm, Fw11_0, Fw11_1, K11⟩
 have z28 := K11.size
 have lt29 := Fw11_0.lt
 unfold epoch_read_J2 at hm
 refine sw_seq<|qs 2 rfl<|qm rfl<|qv rfl (vv_neq (a := a10) (b := 0) rfl rfl)<|sd_done<|sw_cond rfl (fun c3 => ?_) (fun c3 => ?_)
 · replace hm := iT c3 hm
   refine qs 3 rfl<|qm rfl<|qm rfl<|qm rfl<|sd_done<|sw_ret ?_
   refine then_r ?_
   have X30 := (X27.kz K11)
   cases hm
   refine ⟨_, _, rfl, res_2 rfl (rv_tmp rfl) (rv_tmp rfl), ?_⟩
   exact ⟨(.slice none 0 0), 0, 0, rfl, (own_nil _ 0 5 1), ⟨.inl rfl⟩, X30⟩
 replace hm := iF c3 hm
 refine qu<|sw_seq<|qs 4 rfl<|qv rfl (vv_loadW agg_23 rfl Fw11_0 rfl)<|qv rfl (vv_fieldAddr fa_52_6 rfl) ?_
 have Y8 := Gr.trans G4 G5
 have B31 := ((((((Bw3.gr Y8).md M6).kz K7).gr Y5).md M10).kz K11)
 refine qv rfl (vv_loadM (vs := kb p2.Mac) agg_23 rfl B31 rfl rfl)<|qv rfl (vv_neqS (cf := kb) (a := a9) (b := p2.Mac) eqt_23 rfl rfl rfl rfl (fun h => kb_inj h))<|sd_done<|sw_cond rfl (fun c4 => ?_) (fun c4 => ?_)
 · replace hm := iT c4 hm
   refine qs 2 rfl<|qm rfl<|qm rfl<|sd_done<|sw_ret<|then_r ?_
   have X32 := (X27.kz K11)
   cases hm
   refine ⟨_, _, rfl, res_2 rfl (rv_tmp rfl) (rv_tmp rfl), ?_⟩
   exact ⟨(.slice none 0 0), 0, 0, rfl, (own_nil _ 0 5 1), ⟨.inl rfl⟩, X32⟩
 replace hm := iF c4 hm
 refine qu<|qs 10 rfl ?_
 have B33 := (Bw10.kz K11)
 refine qv rfl (vv_loadW agg_23 rfl B33 rfl)<|qv rfl (vv_fieldAddr fa_52_4 rfl)<|qv rfl (vv_load1 (v := wv p2.Number) one_24 rfl B31 rfl)<|qv rfl (vv_fieldAddr fa_52_5 rfl)<|qv rfl (vv_load1 (v := vp2_39) one_50 rfl B31 rfl) ?_
 have B34 := ((((((hp2_39.gr Y4).md M6 (pb_lt lt4)).kz K7).gr Y5).md M10 (pb_lt lt4)).kz K11)
 obtain ⟨x11, hx11, hm⟩ := bnd hm
 refine qe rfl (eC en_76 rfl (cipher_Stream_w hx11 B34)) ?_
 rintro _ w12 ⟨u12_r0_s, z12_r0_s, g12_r0_s, rfl, O12_r0_s, f12_r0_s, G12⟩
 have z35 := G12.size
 have lt36 := O12_r0_s.lth
 refine qm rfl<|qm rfl<|qm rfl<|qm rfl<|sd_done<|sw_ret ?_
 have X37 := ((X27.kz K11).trans G12)
 cases hm
 refine ⟨_, _, rfl, res_2 rfl (rv_tmp rfl) (rv_tmp rfl), ?_⟩
 exact ⟨u12_r0_s, z12_r0_s, g12_r0_s, rfl, O12_r0_s, ⟨(pv_0 (A := (fun x => w.heap.size ≤ x)) f12_r0_s)⟩, X37⟩
theorem epoch_Take_w {p0 p1 p2 p3 p4 vp2_1 zp2_1 gp2_1 op2_1 vp3_2 zp3_2 gp3_2 op3_2 vp3_4 zp3_4 gp3_4 op3_4 vp3_39 zp3_39 gp3_39 op3_39 r} (hm : epoch_Take p0 p1 p2 p3 p4 = some r) {w : World} (hp2_1 : Rd w zp2_1 gp2_1 op2_1 18 vp2_1 (p2.Secret.Labels.map TLabel.cs)) (hp3_2 : Rd w zp3_2 gp3_2 op3_2 18 vp3_2 (p3.Head.Items.map TItem.cs)) (hp3_4 : Rd w zp3_4 gp3_4 op3_4 2 vp3_4 (p3.Head.Points.map TPoint.cs)) (hp3_39 : Rd w zp3_39 gp3_39 op3_39 1 vp3_39 (p3.Data.map bvc)) :
    Calls Tryz.prog 37 [.agg (TScheme.cs p0).toArray, .agg (TAir.cs p1).toArray, .agg (TReceiver.cs p2 vp2_1).toArray, .agg (TPacket.cs p3 vp3_2 vp3_4 vp3_39).toArray, .int .i64 p4].toArray w fun e w' => ∃ v, e = .returned v ∧ (∃ ur0_1 zr0_1 gr0_1 ur1_s zr1_s gr1_s, v = .tuple [.agg (TReceiver.cs r.1 ur0_1).toArray, ur1_s, .int .i64 r.2.2].toArray ∧ Own w' zr0_1 gr0_1 92 18 ur0_1 (r.1.Secret.Labels.map TLabel.cs) ∧ Hdn (zr0_1 = 0 ∨ w.heap.size ≤ gr0_1) ∧ Own w' zr1_s gr1_s 5 1 ur1_s (r.2.1.map bvc) ∧ Hdn (zr1_s = 0 ∨ w.heap.size ≤ gr1_s) ∧ Hdn (zr1_s = 0 ∨ zr0_1 = 0 ∨ gr1_s ≠ gr0_1) ∧ Gr w w') := by
 have lt1 := hp2_1.lth
 have lt2 := hp3_2.lth
 have lt3 := hp3_4.lth
 have lt4 := hp3_39.lth
 unfold epoch_Take at hm
 refine calls_of_sw 68 Tryz.func37 rfl rfl rfl<|qs 7 rfl<|qe rfl (ev_box (cs := TScheme.cs p0) rfl rfl) ?_
 rintro _ w1 ⟨b1, rfl, hbw1, Bw1, G1⟩
 have z5 := G1.size
 have lt6 := Bw1.lt
 refine qe rfl (ev_box (cs := TAir.cs p1) rfl rfl) ?_
 rintro _ w2 ⟨b2, rfl, hbw2, Bw2, G2⟩
 have z7 := G2.size
 have lt8 := Bw2.lt
 refine qe rfl (ev_box (cs := TReceiver.cs p2 vp2_1) rfl rfl) ?_
 rintro _ w3 ⟨b3, rfl, hbw3, Bw3, G3⟩
 have z9 := G3.size
 have lt10 := Bw3.lt
 refine qe rfl (ev_box (cs := TPacket.cs p3 vp3_2 vp3_4 vp3_39) rfl rfl) ?_
 rintro _ w4 ⟨b4, rfl, hbw4, Bw4, G4⟩
 have z11 := G4.size
 have lt12 := Bw4.lt
 refine qe rfl (ev_alloc (cs := TReceiver.cs (TReceiver.mk (TSecret.mk 0 [] (TPoint.mk 0#64 0#64)) 0 (TA2_Slot.mk (TSlot.mk false 0 k0) (TSlot.mk false 0 k0))) (.slice none 0 0)) zv_78 rfl) ?_
 rintro _ w5 ⟨b5, rfl, hbw5, Bw5, G5⟩
 have z13 := G5.size
 have lt14 := Bw5.lt
 refine qm rfl<|qm rfl<|qd 5 rfl ?_
 have Y1 := Gr.trans (Gr.trans (Gr.trans G2 G3) G4) G5
 have B15 := (Bw1.gr Y1)
 refine qv rfl (vv_loadW agg_28 rfl B15 rfl) ?_
 have Y2 := Gr.trans (Gr.trans G3 G4) G5
 have B16 := (Bw2.gr Y2)
 refine qv rfl (vv_loadW agg_65 rfl B16 rfl) ?_
 have Y3 := Gr.trans G4 G5
 have B17 := (Bw3.gr Y3)
 refine qv rfl (vv_loadW agg_78 rfl B17 rfl) ?_
 have Y4 := Gr.trans G1 Y1
 have B18 := (hp2_1.gr Y4)
 obtain ⟨x1, hx1, hm⟩ := bnd hm
 refine qe rfl (eC en_40 rfl (epoch_Check_w hx1 B18)) ?_
 rintro _ w6 ⟨rfl, G6⟩
 have z19 := G6.size
 refine qm rfl<|sd_done ?_
 have Y5 := Gr.trans Y4 G6
 have X20 := ((Gr.refl w).trans Y5)
 refine qj (β := Int) [13, 19, 20, 21, 22] (fun a2 => [(13, .int .i64 a2)]) (fun a2 wr => (epoch_Take_J1 p0 p1 p2 p3 p4 a2 = some r) ∧ Kz [] w6 wr) ?_ ?_
 · refine qs 2 rfl<|qm rfl<|qv rfl (vv_eql (a := x1) (b := 0) rfl rfl)<|sd_done<|cnF rfl (fun c6 => ?_) (fun c6 => ?_)
   · replace hm := iF c6 hm
     refine sw_skip ?_
     exact ⟨rfl, x1, sbq, hm, kz0⟩
   replace hm := iT c6 hm
   refine qg 3 rfl ?_
   have Y6 := Gr.trans G5 G6
   have B70 := (Bw4.gr Y6)
   refine qv rfl (vv_loadW agg_52 rfl B70 rfl) ?_
   have B71 := (hp3_2.gr Y5)
   have B72 := (hp3_4.gr Y5)
   have B73 := (hp3_39.gr Y5)
   obtain ⟨x16, hx16, hm⟩ := bnd hm
   refine qe rfl (eC en_60 rfl (epoch_CheckPacket_w hx16 B71 B72 B73)) ?_
   rintro _ w19 ⟨rfl, G19⟩
   have z74 := G19.size
   refine qm rfl<|sd_nil ?_
   exact ⟨rfl, x16, sbq, hm, (kz0.gr G19)⟩
 clear hm; rintro a2 w7 ⟨hm, K7⟩
 have z21 := K7.size
 unfold epoch_Take_J1 at hm
 have X22 := (X20.kz K7)
 refine qj (β := Int) ([13] ++ rg 23 7) (fun a3 => [(13, .int .i64 a3)]) (fun a3 wr => (epoch_Take_J2 p0 p1 p2 p3 p4 a3 = some r) ∧ Kz [] w7 wr) ?_ ?_
 · refine qj (β := Bool) (rg 23 7) (fun a14 => [(29, .bool a14)]) (fun a14 wr => (epoch_Take_J4 p0 p1 p2 p3 p4 a2 a14 = some r) ∧ Kz [] w7 wr) ?_ ?_
   · refine qg 7 rfl<|qm rfl<|qv rfl (vv_eql (a := a2) (b := 0) rfl rfl)<|qpF rfl (vv_move rfl) (fun c5 => ?_) (fun c5 => ?_)
     · replace hm := iF c5 hm
       refine qk rfl<|qk rfl<|qk rfl<|qm rfl<|sd_nil ?_
       exact ⟨rfl, false, sbq, hm, kz0⟩
     replace hm := iT c5 hm
     refine qm rfl ?_
     obtain ⟨x15, hx15, hm⟩ := bnd hm
     refine qe rfl (eC en_67 rfl (epoch_isTick_w hx15)) ?_
     rintro _ w18 ⟨rfl, G18⟩
     have z67 := G18.size
     refine qv rfl (vv_not rfl)<|qm rfl<|sd_nil ?_
     exact ⟨rfl, (!x15), sbq, hm, (kz0.gr G18)⟩
   clear hm; rintro a14 w17 ⟨hm, K17⟩
   have z64 := K17.size
   unfold epoch_Take_J4 at hm
   refine cnF rfl (fun c4 => ?_) (fun c4 => ?_)
   · replace hm := cnd_f c4 hm
     refine sw_skip ?_
     exact ⟨rfl, a2, sbq, hm, (kz0.kz K17)⟩
   replace hm := cnd_t c4 hm
   refine qg 1 rfl<|qm rfl<|sd_nil ?_
   exact ⟨rfl, 2, sbq, hm, (kz0.kz K17)⟩
 clear hm; rintro a3 w8 ⟨hm, K8⟩
 have z23 := K8.size
 unfold epoch_Take_J2 at hm
 refine sw_seq<|qs 2 rfl<|qm rfl<|qv rfl (vv_neq (a := a3) (b := 0) rfl rfl)<|sd_done<|sw_cond rfl (fun c1 => ?_) (fun c1 => ?_)
 · replace hm := iT c1 hm
   refine qs 5 rfl<|qv rfl (vv_build (cs := TReceiver.cs (TReceiver.mk (TSecret.mk 0 [] (TPoint.mk 0#64 0#64)) 0 (TA2_Slot.mk (TSlot.mk false 0 k0) (TSlot.mk false 0 k0))) (.slice none 0 0)) bs_78 rfl (by kernel_rfl))<|qm rfl ?_
   have B24 := (((Bw5.gr G6).kz K7).kz K8)
   refine qe rfl (ev_stW agg_78 rfl rfl (TReceiver.cs_ones _ _ rfl) B24 rfl rfl) ?_
   rintro _ w9 ⟨Bw9, M9⟩
   have z25 := M9.size
   refine qm rfl<|qm rfl<|qb ?_
   have X26 := ((X22.kz K8).md M9)
   cases hm
   refine ⟨_, _, rfl, res_3 rfl (rv_cellW agg_78 rfl Bw9 rfl) (rv_tmp rfl) (rv_tmp rfl), ?_⟩
   exact ⟨(.slice none 0 0), 0, 0, (.slice none 0 0), 0, 0, rfl, (own_nil _ 0 92 18), ⟨.inl rfl⟩, (own_nil _ 0 5 1), ⟨.inl rfl⟩, ⟨(.inl rfl)⟩, X26⟩
 replace hm := iF c1 hm
 refine qu<|qs 7 rfl<|qv rfl (vv_fieldAddr fa_78_0 rfl)<|qv rfl (vv_fieldAddr fa_33_1 rfl) ?_
 have B27 := (((B17.gr G6).kz K7).kz K8)
 refine qv rfl (vv_load1 (v := vp2_1) one_29 rfl B27 rfl) ?_
 have B28 := (((B18.gr G6).kz K7).kz K8)
 obtain ⟨x4, hx4, hm⟩ := bnd hm
 refine qe rfl (eC en_83 rfl (slices_Clone_109b_w hx4 B28)) ?_
 rintro u10_r0_s w10 ⟨_, z10_r0_s, g10_r0_s, rfl, O10_r0_s, f10_r0_s, G10⟩
 have z29 := G10.size
 have lt30 := O10_r0_s.lth
 refine qv rfl (vv_fieldAddr fa_78_0 rfl)<|qv rfl (vv_fieldAddr fa_33_1 rfl) ?_
 have B31 := (B27.gr G10)
 refine qe rfl (ev_st1 (cs' := TReceiver.cs (TReceiver.mk (TSecret.mk p2.Secret.Receiver x4 p2.Secret.Share) p2.Ahead p2.Slots) u10_r0_s) (one_29).siz rfl rfl (Own.oneB O10_r0_s) B31 rfl rfl) ?_
 rintro _ w11 ⟨Bw11, M11⟩
 have z32 := M11.size
 refine qd 1 rfl<|qm rfl<|sd_done ?_
 have X33 := (((X22.kz K8).trans G10).md M11)
 refine qj (β := Int × List (BitVec 8) × Int × TPoint × Int × TA2_Slot × Value × Nat × Nat) ([13, 14] ++ rg 40 22) (fun ⟨a5, a6, a8, a9, a10, a11, vy7, zy7, gy7⟩ => [(13, .int .i64 a5), (14, vy7)]) (fun ⟨a5, a6, a8, a9, a10, a11, vy7, zy7, gy7⟩ wr => (epoch_Take_J3 x4 a5 a6 a8 a9 a10 a11 = some r) ∧ Own wr zy7 gy7 5 1 vy7 (a6.map bvc) ∧ Hdn (zy7 = 0 ∨ w11.heap.size ≤ gy7) ∧ Bx wr b3 78 (TReceiver.cs (TReceiver.mk (TSecret.mk a8 x4 a9) a10 a11) u10_r0_s) ∧ Kz [(1, b3)] w11 wr) ?_ ?_
 · refine qs 3 rfl<|qv rfl (vv_fieldAddr fa_52_0 rfl) ?_
   have Y7 := Gr.trans G5 G6
   have B46 := (((((Bw4.gr Y7).kz K7).kz K8).gr G10).md M11)
   refine qv rfl (vv_load1 (v := bv p3.Kind) one_5 rfl B46 rfl)<|qv rfl (vv_eqlB (p := p3.Kind) (q := 1#8) rfl rfl)<|sd_done<|sw_cond rfl (fun c3 => ?_) (fun c3 => ?_)
   · replace hm := iT c3 hm
     refine qg 9 rfl ?_
     have B47 := (((((B15.gr G6).kz K7).kz K8).gr G10).md M11)
     refine qv rfl (vv_loadW agg_28 rfl B47 rfl) ?_
     have B48 := (((((B16.gr G6).kz K7).kz K8).gr G10).md M11)
     refine qv rfl (vv_loadW agg_65 rfl B48 rfl)<|qv rfl (vv_loadW agg_52 rfl B46 rfl)<|qm rfl<|qv rfl (vv_fieldAddr fa_78_1 rfl)<|qv rfl (vv_load1 (v := .int .i64 p2.Ahead) one_3 rfl Bw11 rfl)<|qv rfl (vv_add (k := .i64) (a := p4) (b := p2.Ahead) rfl rfl) ?_
     have B49 := (O10_r0_s.md M11 (pb_0 f10_r0_s))
     have B50 := (((((hp3_2.gr Y5).kz K7).kz K8).gr G10).md M11 (pb_lt lt2))
     have B51 := (((((hp3_4.gr Y5).kz K7).kz K8).gr G10).md M11 (pb_lt lt3))
     have B52 := (((((hp3_39.gr Y5).kz K7).kz K8).gr G10).md M11 (pb_lt lt4))
     obtain ⟨x12, hx12, hm⟩ := bnd hm
     refine qe rfl (eC en_84 rfl (epoch_learn_w hx12 Bw11 (Own.rd B49) B50 B51 B52 ⟨(tk1 (pb_0 (b := b3) f10_r0_s))⟩ ⟨(tk1 (pb_lt (b := b3) lt2))⟩ ⟨(tk1 (pb_lt (b := b3) lt3))⟩ ⟨(tk1 (pb_lt (b := b3) lt4))⟩)) ?_
     rintro _ w15 ⟨rfl, Bk15_0, K15⟩
     have z53 := K15.size
     refine qm rfl<|sd_nil ?_
     exact ⟨rfl, ⟨x12.1, [], x12.2.Secret.Receiver, x12.2.Secret.Share, x12.2.Ahead, x12.2.Slots, (.slice none 0 0), 0, 0⟩, sbq, hm, (own_nil _ 0 5 1), ⟨(.inl rfl)⟩, Bk15_0, (Kz.kz (Kz.refl _ _) K15)⟩
   replace hm := iF c3 hm
   refine qg 13 rfl ?_
   have B55 := (((((B16.gr G6).kz K7).kz K8).gr G10).md M11)
   refine qv rfl (vv_loadW agg_65 rfl B55 rfl)<|qv rfl (vv_loadW agg_78 rfl Bw11 rfl)<|qv rfl (vv_loadW agg_52 rfl B46 rfl)<|qm rfl<|qv rfl (vv_fieldAddr fa_78_1 rfl)<|qv rfl (vv_load1 (v := .int .i64 p2.Ahead) one_3 rfl Bw11 rfl)<|qv rfl (vv_add (k := .i64) (a := p4) (b := p2.Ahead) rfl rfl) ?_
   have B56 := (O10_r0_s.md M11 (pb_0 f10_r0_s))
   have B57 := (((((hp3_2.gr Y5).kz K7).kz K8).gr G10).md M11 (pb_lt lt2))
   have B58 := (((((hp3_4.gr Y5).kz K7).kz K8).gr G10).md M11 (pb_lt lt3))
   have B59 := (((((hp3_39.gr Y5).kz K7).kz K8).gr G10).md M11 (pb_lt lt4))
   obtain ⟨x13, hx13, hm⟩ := bnd hm
   refine qe rfl (eC en_85 rfl (epoch_read_w hx13 (Own.rd B56) B57 B58 B59)) ?_
   rintro _ w16 ⟨u16_r0_s, z16_r0_s, g16_r0_s, rfl, O16_r0_s, f16_r0_s, G16⟩
   have z60 := G16.size
   have lt61 := O16_r0_s.lth
   refine qm rfl<|qm rfl<|qm rfl<|qm rfl<|qm rfl<|sd_nil ?_
   have K_62 : Kz [(1, b3)] w11 w16 := (Kz.gr (Kz.refl _ _) G16)
   have B63 := (Bw11.gr G16)
   exact ⟨rfl, ⟨x13.2, x13.1, p2.Secret.Receiver, p2.Secret.Share, p2.Ahead, p2.Slots, u16_r0_s, z16_r0_s, g16_r0_s⟩, sbq, hm, O16_r0_s, ⟨(pv_0 (A := (fun x => w11.heap.size ≤ x)) f16_r0_s)⟩, B63, K_62⟩
 clear hm; rintro ⟨a5, a6, a8, a9, a10, a11, vy7, zy7, gy7⟩ w12 ⟨hm, Fw12_0, Fw12_1, Fw12_2, K12⟩
 have z34 := K12.size
 have lt35 := Fw12_0.lth
 have lt36 := Fw12_2.lt
 unfold epoch_Take_J3 at hm
 refine sw_seq<|qs 2 rfl<|qm rfl<|qv rfl (vv_neq (a := a5) (b := 0) rfl rfl)<|sd_done<|sw_cond rfl (fun c2 => ?_) (fun c2 => ?_)
 · replace hm := iT c2 hm
   refine qs 5 rfl<|qv rfl (vv_build (cs := TReceiver.cs (TReceiver.mk (TSecret.mk 0 [] (TPoint.mk 0#64 0#64)) 0 (TA2_Slot.mk (TSlot.mk false 0 k0) (TSlot.mk false 0 k0))) (.slice none 0 0)) bs_78 rfl (by kernel_rfl))<|qm rfl ?_
   have B37 := ((((((Bw5.gr G6).kz K7).kz K8).gr G10).md M11).kz K12)
   refine qe rfl (ev_stW agg_78 rfl rfl (TReceiver.cs_ones _ _ rfl) B37 rfl rfl) ?_
   rintro _ w13 ⟨Bw13, M13⟩
   have z38 := M13.size
   refine qm rfl<|qm rfl<|qb ?_
   have X39 := ((X33.kz K12).md M13)
   cases hm
   refine ⟨_, _, rfl, res_3 rfl (rv_cellW agg_78 rfl Bw13 rfl) (rv_tmp rfl) (rv_tmp rfl), ?_⟩
   exact ⟨(.slice none 0 0), 0, 0, (.slice none 0 0), 0, 0, rfl, (own_nil _ 0 92 18), ⟨.inl rfl⟩, (own_nil _ 0 5 1), ⟨.inl rfl⟩, ⟨(.inl rfl)⟩, X39⟩
 replace hm := iF c2 hm
 refine qu<|qs 5 rfl<|qv rfl (vv_loadW agg_78 rfl Fw12_2 rfl)<|qm rfl ?_
 have B40 := ((((((Bw5.gr G6).kz K7).kz K8).gr G10).md M11).kz K12)
 have B41 := ((O10_r0_s.md M11 (pb_0 f10_r0_s)).kz K12 (tk1 (pb_0 (b := b3) f10_r0_s)))
 refine qe rfl (ev_stW agg_78 rfl rfl (TReceiver.cs_ones _ _ (Own.oneB B41)) B40 rfl rfl) ?_
 rintro _ w14 ⟨Bw14, M14⟩
 have z42 := M14.size
 refine qm rfl<|qm rfl<|sd_done<|sw_ret ?_
 have B43 := (B41.md M14 (pb_0 f10_r0_s))
 have B44 := (Fw12_0.md M14 (pb_0 Fw12_1))
 have X45 := ((X33.kz K12).md M14)
 cases hm
 refine ⟨_, _, rfl, res_3 rfl (rv_cellW agg_78 rfl Bw14 rfl) (rv_tmp rfl) (rv_tmp rfl), ?_⟩
 exact ⟨u10_r0_s, z10_r0_s, g10_r0_s, vy7, zy7, gy7, rfl, B43, ⟨(pv_0 (A := (fun x => w.heap.size ≤ x)) f10_r0_s)⟩, B44, ⟨(pv_0 (A := (fun x => w.heap.size ≤ x)) Fw12_1)⟩, ⟨(pv_0 (A := (fun x => z10_r0_s = 0 ∨ x ≠ g10_r0_s)) Fw12_1 (fun x hx => (tk1 lt30.o)))⟩, X45⟩
end Go.Proofs.YtjdffpglgkefmaaGreat.Mx
