/- Walks that follow mirrors: Gf. Printed by mx.py. -/
import Derived.Test.YtopkalcefepilaaGe
import Derived.Test.YtopkalcefepilaaZd
set_option linter.unusedVariables false
set_option linter.unusedSimpArgs false
set_option maxRecDepth 100000
set_option maxHeartbeats 2000000
namespace Go.Proofs.Ytopkalcefepilaa.Mx
open Go Go.RowKit Go.Sx
theorem en_34 : En Try.prog 34 := fun _ _ => by kernel_rfl
theorem en_16 : En Try.prog 16 := fun _ _ => by kernel_rfl
theorem zv_50 : ZV Try.prog 50 (.agg [.int .i64 0, .int .i64 0, .int .i64 0, .int .i64 0, .int .i64 0, .int .i64 0, .int .u64 0, .int .u64 0, .int .u64 0].toArray) := fun _ => by kernel_rfl
theorem bs_50 : BS Try.prog 50 (fun i => [(0, 1), (1, 1), (2, 1), (3, 1), (4, 1), (5, 1), (6, 3)][i]?) [.int .i64 0, .int .i64 0, .int .i64 0, .int .i64 0, .int .i64 0, .int .i64 0, .int .u64 0, .int .u64 0, .int .u64 0] := bs_mk Try.underlying50 zv_50 ⟨rfl, (one_3).siz, rfl, (one_3).siz, rfl, (one_3).siz, rfl, (one_3).siz, rfl, (one_3).siz, rfl, (one_3).siz, rfl, (agg_24).siz, trivial⟩
theorem en_37 : En Try.prog 37 := fun _ _ => by kernel_rfl
theorem en_27 : En Try.prog 27 := fun _ _ => by kernel_rfl
theorem bsl_32_2 : BSl Try.prog 32 2 3 1 [.int .i64 0, .int .i64 0] := bsl_mk Try.underlying32 (one_3).siz zv_3 rfl rfl (by kernel_rfl)
theorem bsl_32_5 : BSl Try.prog 32 5 3 1 [.int .i64 0, .int .i64 0, .int .i64 0, .int .i64 0, .int .i64 0] := bsl_mk Try.underlying32 (one_3).siz zv_3 rfl rfl (by kernel_rfl)
theorem en_14 : En Try.prog 14 := fun _ _ => by kernel_rfl
theorem en_61 : En Try.prog 61 := fun _ _ => by kernel_rfl
theorem en_31 : En Try.prog 31 := fun _ _ => by kernel_rfl
theorem law10_tree_w {p0 p1 r} (hm : law10_tree p0 p1 = some r) {w : World} :
    Calls Try.prog 34 [bv p0, .int .i64 p1].toArray w fun e w' => ∃ v, e = .returned v ∧ (v = .agg (TScheme.cs r).toArray ∧ Gr w w') := by
 unfold law10_tree at hm
 refine calls_of_sw 8 Try.func34 rfl rfl rfl<|qs 1 rfl<|qe rfl (ev_alloc (cs := TScheme.cs (TScheme.mk 0#8 0 0 (TGroup.mk 0#64 0#64 0#64))) zv_26 rfl) ?_
 rintro _ w1 ⟨b1, rfl, hbw1, Bw1, G1⟩
 have z1 := G1.size
 have lt2 := Bw1.lt
 refine qd 4 rfl<|qm rfl<|qm rfl<|qv rfl (vv_build (cs := TScheme.cs (TScheme.mk p0 p1 0 (TGroup.mk 0#64 0#64 0#64))) bs_26 rfl rfl)<|qe rfl (ev_stW agg_26 rfl rfl rfl Bw1 rfl rfl) ?_
 rintro _ w2 ⟨Bw2, M2⟩
 have z3 := M2.size
 refine sd_done<|sw_ret ?_
 have X4 := (((Gr.refl w).trans G1).md M2)
 cases hm
 refine ⟨_, _, rfl, res_1 rfl (rv_cellW agg_26 rfl Bw2 rfl), ?_⟩
 exact ⟨rfl, X4⟩
theorem law10_small_w {r} (hm : law10_small = some r) {w : World} :
    Calls Try.prog 37 [].toArray w fun e w' => ∃ v, e = .returned v ∧ (v = .agg (TNeed.cs r).toArray ∧ Gr w w') := by
 unfold law10_small at hm
 refine calls_of_sw 2 Try.func37 rfl rfl rfl<|qs 1 rfl<|qe rfl (ev_alloc (cs := TNeed.cs (TNeed.mk 0 0 0 0 0 0 (TGroup.mk 0#64 0#64 0#64))) zv_50 rfl) ?_
 rintro _ w1 ⟨b1, rfl, hbw1, Bw1, G1⟩
 have z1 := G1.size
 have lt2 := Bw1.lt
 refine qd 2 rfl<|qv rfl (vv_build (cs := TNeed.cs (TNeed.mk 2 1 48 10 1 2 (TGroup.mk 0#64 0#64 0#64))) bs_50 rfl rfl)<|qe rfl (ev_stW agg_50 rfl rfl rfl Bw1 rfl rfl) ?_
 rintro _ w2 ⟨Bw2, M2⟩
 have z3 := M2.size
 refine sd_done<|sw_ret ?_
 have X4 := (((Gr.refl w).trans G1).md M2)
 cases hm
 refine ⟨_, _, rfl, res_1 rfl (rv_cellW agg_50 rfl Bw2 rfl), ?_⟩
 exact ⟨rfl, X4⟩
theorem law10_worsts_w {p0 p1 vp1 zp1 gp1 op1 r} (hm : law10_worsts p0 p1 = some r) {w : World} (hp1 : Rd w zp1 gp1 op1 1 vp1 (p1.map ic)) :
    Calls Try.prog 61 [.agg (TScheme.cs p0).toArray, vp1].toArray w fun e w' => ∃ v, e = .returned v ∧ (v = .bool r ∧ Gr w w') := by
 have lt1 := hp1.lth
 unfold law10_worsts at hm
 refine calls_of_sw 30 Try.func61 rfl rfl rfl<|qs 2 rfl<|qe rfl (ev_box (cs := TScheme.cs p0) rfl rfl) ?_
 rintro _ w1 ⟨b1, rfl, hbw1, Bw1, G1⟩
 have z2 := G1.size
 have lt3 := Bw1.lt
 refine qm rfl<|sd_done<|sw_seq<|qs 3 rfl<|qm rfl ?_
 have B4 := (hp1.gr G1)
 refine qv rfl (vv_lenT (l := p1) (c := ic) Try.underlying32 rfl B4)<|qm rfl<|sd_done<|sw_block ?_
 have X5 := ((Gr.refl w).trans G1)
 refine sw_loopD (α := Nat × Int) ([4, 5, 6, 7] ++ rg 10 20) (fun ⟨n1, a2⟩ => [(4, .bool false), (10, .int .i64 a2)]) (fun ⟨n1, a2⟩ wr => (fixN (law10_worsts_L1 p0 p1) n1 a2 = some r) ∧ Kz [] w1 wr) (fun ⟨n1, a2⟩ => n1) ⟨FUEL, 0⟩ ?_ ?_ ?_
 · exact sbq
 · exact ⟨hm, Kz.refl _ _⟩
 clear hm; rintro ⟨n1, a2⟩ w2 ⟨hm, K2⟩
 have z6 := K2.size
 have hb := fix_succ hm; clear hm; obtain ⟨n1, rfl, hm⟩ := hb
 generalize hrec1 : fixN (law10_worsts_L1 p0 p1) n1 = rec1 at hm
 unfold law10_worsts_L1 at hm
 try dsimp only at hm
 refine qs 1 rfl<|qv rfl (vv_lss (a := a2) (b := (p1.length : Int)) rfl rfl)<|sd_done<|sw_seq<|cnF rfl (fun c1 => ?_) (fun c1 => ?_)
 · replace hm := iF c1 hm
   refine sw_exit<|then_x<|then_x<|block_x<|then_n<|qs 1 rfl ?_
   refine qm rfl<|sd_done<|sw_ret ?_
   have X16 := (X5.kz K2)
   cases hm
   refine ⟨_, _, rfl, res_1 rfl (rv_tmp rfl), ?_⟩
   exact ⟨rfl, X16⟩
 replace hm := iT c1 hm
 refine qu<|sw_seq<|sw_block<|qs 2 rfl<|qm rfl ?_
 refine qm rfl<|qd 8 rfl ?_
 have B7 := (Bw1.kz K2)
 refine qv rfl (vv_loadW agg_26 rfl B7 rfl)<|qm rfl ?_
 obtain ⟨x3, hx3, hm⟩ := bnd hm
 refine qe rfl (eC en_14 rfl (plan_Worst_w hx3)) ?_
 rintro _ w3 ⟨rfl, G3⟩
 have z8 := G3.size
 refine qm rfl<|qm rfl<|qm rfl<|qm rfl<|qm rfl<|sd_done ?_
 have X9 := ((X5.kz K2).trans G3)
 refine qj (β := Bool) (rg 19 10) (fun a4 => [(28, .bool a4)]) (fun a4 wr => (law10_worsts_J2 a2 rec1 a4 = some r) ∧ Kz [] w3 wr) ?_ ?_
 · refine qg 10 rfl<|qm rfl<|qv rfl (vv_neq (a := x3.2) (b := 0) rfl rfl)<|qp rfl (vv_move rfl) (fun c3 => ?_) (fun c3 => ?_)
   · replace hm := iT c3 hm
     refine qk rfl<|qk rfl<|qk rfl<|qk rfl<|qk rfl<|qk rfl<|qm rfl ?_
     refine sd_nil ?_
     exact ⟨rfl, true, sbq, hm, kz0⟩
   replace hm := iF c3 hm
   refine qm rfl<|qm rfl<|qm rfl ?_
   obtain ⟨y5, hy5, hm⟩ := bnd hm
   have B14 := ((B4.kz K2).gr G3)
   refine qv rfl (vv_ixT (i := a2) Try.underlying32 (one_3).siz rfl B14 rfl hy5)<|qv rfl (vv_el1T (q := 0) (u := .int .i64 y5) one_3 rfl B14 hy5 (by first | rfl | omega) rfl)<|qv rfl (vv_neq (a := x3.1) (b := y5) rfl rfl)<|qm rfl<|sd_nil ?_
   exact ⟨rfl, (decide (x3.1 ≠ y5)), sbq, hm, kz0⟩
 clear hm; rintro a4 w4 ⟨hm, K4⟩
 have z10 := K4.size
 unfold law10_worsts_J2 at hm
 refine sw_cond rfl (fun c2 => ?_) (fun c2 => ?_)
 · replace hm := cnd_t c2 hm
   refine qs 1 rfl<|qm rfl<|sd_done<|sw_ret<|block_r<|then_r ?_
   refine then_r<|block_r<|then_r ?_
   have X11 := (X9.kz K4)
   cases hm
   refine ⟨_, _, rfl, res_1 rfl (rv_tmp rfl), ?_⟩
   exact ⟨rfl, X11⟩
 replace hm := cnd_f c2 hm
 refine sw_skip<|block_n<|then_n<|qg 2 rfl<|qv rfl (vv_add (k := .i64) (a := a2) (b := 1) rfl rfl)<|qm rfl<|sd_nil ?_
 have K_12 : Kz [] w1 w4 := ((K2.gr G3).kz K4)
 subst hrec1
 exact ⟨rfl, ⟨n1, w64 (a2 + 1)⟩, sbq, ⟨hm, K_12⟩, Nat.lt_succ_self _⟩
theorem law10_alive_w {r} (hm : law10_alive = some r) {w : World} :
    Calls Try.prog 33 [].toArray w fun e w' => ∃ v, e = .returned v ∧ (v = .bool r ∧ Gr w w') := by
 unfold law10_alive at hm
 refine calls_of_sw 82 Try.func33 rfl rfl rfl<|qs 1 rfl<|qm rfl<|qd 7 rfl ?_
 obtain ⟨x1, hx1, hm⟩ := bnd hm
 refine qe rfl (eC en_34 rfl (law10_tree_w hx1)) ?_
 rintro _ w1 ⟨rfl, G1⟩
 have z1 := G1.size
 obtain ⟨x2, hx2, hm⟩ := bnd hm
 refine qe rfl (eC en_16 rfl (plan_Witness_w hx2)) ?_
 rintro _ w2 ⟨u2_r0_s, z2_r0_s, g2_r0_s, rfl, O2_r0_s, f2_r0_s, G2⟩
 have z2 := G2.size
 have lt3 := O2_r0_s.lth
 refine qm rfl<|qm rfl<|qm rfl<|qm rfl<|qm rfl<|sd_done<|sw_seq ?_
 refine qg 7 rfl ?_
 obtain ⟨x3, hx3, hm⟩ := bnd hm
 refine qe rfl (eC en_34 rfl (law10_tree_w hx3)) ?_
 rintro _ w3 ⟨rfl, G3⟩
 have z4 := G3.size
 obtain ⟨x4, hx4, hm⟩ := bnd hm
 refine qe rfl (eC en_16 rfl (plan_Witness_w hx4)) ?_
 rintro _ w4 ⟨u4_r0_s, z4_r0_s, g4_r0_s, rfl, O4_r0_s, f4_r0_s, G4⟩
 have z5 := G4.size
 have lt6 := O4_r0_s.lth
 refine qm rfl<|qm rfl<|qm rfl<|qm rfl<|qm rfl<|sd_done<|sw_seq ?_
 refine qg 8 rfl ?_
 obtain ⟨x5, hx5, hm⟩ := bnd hm
 refine qe rfl (eC en_37 rfl (law10_small_w hx5)) ?_
 rintro _ w5 ⟨rfl, G5⟩
 have z7 := G5.size
 obtain ⟨x6, hx6, hm⟩ := bnd hm
 refine qe rfl (eC en_25 rfl (plan_Choose_w hx6)) ?_
 rintro _ w6 ⟨u6_r0_7, z6_r0_7, g6_r0_7, rfl, O6_r0_7, f6_r0_7, G6⟩
 have z8 := G6.size
 have lt9 := O6_r0_7.lth
 refine qm rfl<|qm rfl<|qm rfl<|qe rfl (ev_alloc (cs := TChoice.cs (TChoice.mk 0#8 false 0 0 0 0 0 []) (.slice none 0 0)) zv_52 rfl) ?_
 rintro _ w7 ⟨b7, rfl, hbw7, Bw7, G7⟩
 have z10 := G7.size
 have lt11 := Bw7.lt
 have B12 := (O6_r0_7.gr G7)
 refine qe rfl (ev_stW agg_52 rfl rfl (TChoice.cs_ones _ _ (Own.oneB B12)) Bw7 rfl rfl) ?_
 rintro _ w8 ⟨Bw8, M8⟩
 have z13 := M8.size
 refine qm rfl<|qd 8 rfl ?_
 obtain ⟨x7, hx7, hm⟩ := bnd hm
 refine qe rfl (eC en_37 rfl (law10_small_w hx7)) ?_
 rintro _ w9 ⟨rfl, G9⟩
 have z14 := G9.size
 obtain ⟨x8, hx8, hm⟩ := bnd hm
 refine qe rfl (eC en_27 rfl (plan_Make_w hx8)) ?_
 rintro _ w10 ⟨u10_r0_0, z10_r0_0, g10_r0_0, F10_r0_0, rfl, O10_r0_0, f10_r0_0, p10_r0_0, G10⟩
 have z15 := G10.size
 have fl16 := O10_r0_0.flt
 have lt17 := O10_r0_0.lth
 refine qm rfl<|qm rfl<|qm rfl<|qe rfl (ev_alloc (cs := TPlan.cs (TPlan.mk [] 0#8) (.slice none 0 0)) zv_59 rfl) ?_
 rintro _ w11 ⟨b11, rfl, hbw11, Bw11, G11⟩
 have z18 := G11.size
 have lt19 := Bw11.lt
 have B20 := (O10_r0_0.gr G11)
 refine qe rfl (ev_stW agg_59 rfl rfl (TPlan.cs_ones _ _ (OwnD.oneB B20)) Bw11 rfl rfl) ?_
 rintro _ w12 ⟨Bw12, M12⟩
 have z21 := M12.size
 refine qm rfl<|sd_done<|sw_seq ?_
 have Y1 := Gr.trans (Gr.trans G9 G10) G11
 have X22 := (((((((((((Gr.refl w).trans G1).trans G2).trans G3).trans G4).trans G5).trans G6).trans G7).md M8).trans Y1).md M12)
 refine qj (β := Bool) (rg 30 26) (fun a9 => [(55, .bool a9)]) (fun a9 wr => (law10_alive_J1 x6 x8 a9 = some r) ∧ Kz [] w12 wr) ?_ ?_
 · refine qg 26 rfl<|qm rfl<|qv rfl (vv_neq (a := x2.2) (b := 0) rfl rfl)<|qp rfl (vv_move rfl) (fun c6 => ?_) (fun c6 => ?_)
   · replace hm := iT c6 hm
     refine qk rfl<|qk rfl<|qm rfl<|qm rfl<|qk rfl<|qk rfl<|qm rfl ?_
     refine qm rfl<|qk rfl<|qk rfl<|qm rfl<|qm rfl<|qk rfl<|qk rfl ?_
     refine qk rfl<|qk rfl<|qm rfl<|qm rfl<|qk rfl<|qk rfl<|qk rfl ?_
     refine qk rfl<|qm rfl<|sd_nil ?_
     exact ⟨rfl, true, sbq, hm, kz0⟩
   replace hm := iF c6 hm
   refine qm rfl<|qv rfl (vv_neq (a := x4.2) (b := 0) rfl rfl)<|qm rfl<|qp rfl (vv_move rfl) (fun c7 => ?_) (fun c7 => ?_)
   · replace hm := iT c7 hm
     refine qk rfl<|qk rfl<|qm rfl<|qm rfl<|qk rfl<|qk rfl<|qm rfl ?_
     refine qm rfl<|qk rfl<|qk rfl<|qk rfl<|qk rfl<|qm rfl<|qm rfl ?_
     refine qk rfl<|qk rfl<|qk rfl<|qk rfl<|qm rfl<|sd_nil ?_
     exact ⟨rfl, true, sbq, hm, kz0⟩
   replace hm := iF c7 hm
   refine qm rfl<|qv rfl (vv_neq (a := x6.2) (b := 0) rfl rfl)<|qm rfl<|qp rfl (vv_move rfl) (fun c8 => ?_) (fun c8 => ?_)
   · replace hm := iT c8 hm
     refine qk rfl<|qk rfl<|qm rfl<|qm rfl<|qk rfl<|qk rfl<|qk rfl ?_
     refine qk rfl<|qm rfl<|qm rfl<|qk rfl<|qk rfl<|qk rfl<|qk rfl ?_
     refine qm rfl<|sd_nil ?_
     exact ⟨rfl, true, sbq, hm, kz0⟩
   replace hm := iF c8 hm
   refine qm rfl<|qv rfl (vv_neq (a := x8.2) (b := 0) rfl rfl)<|qm rfl<|qp rfl (vv_move rfl) (fun c9 => ?_) (fun c9 => ?_)
   · replace hm := iT c9 hm
     refine qk rfl<|qk rfl<|qk rfl<|qk rfl<|qm rfl<|qm rfl<|qk rfl ?_
     refine qk rfl<|qk rfl<|qk rfl<|qm rfl<|sd_nil ?_
     exact ⟨rfl, true, sbq, hm, kz0⟩
   replace hm := iF c9 hm
   refine qm rfl<|qe rfl (ev_litT [3] ic bsl_32_1 rfl rfl (ws_of rfl) rfl rfl rfl) ?_
   rintro vw24 w24 ⟨gw24, hbw24, Ow24, G24⟩
   have z55 := G24.size
   have lt56 := Ow24.lth
   have Y2 := Gr.trans (Gr.trans (Gr.trans (Gr.trans G3 G4) G5) G6) G7
   have B57 := (((((O2_r0_s.gr Y2).md M8 (pb_lt lt3)).gr Y1).md M12 (pb_lt lt3)).gr G24)
   obtain ⟨x15, hx15, hm⟩ := bnd hm
   refine qe rfl (eC en_18 rfl (ref03_SameInts_w hx15 (Own.rd B57) (Own.rd Ow24))) ?_
   rintro _ w25 ⟨rfl, G25⟩
   have z58 := G25.size
   refine qv rfl (vv_not rfl)<|qm rfl<|qp rfl (vv_move rfl) (fun c10 => ?_) (fun c10 => ?_)
   · replace hm := cnd_t c10 hm
     refine qk rfl<|qk rfl<|qk rfl<|qk rfl<|qm rfl<|sd_nil ?_
     exact ⟨rfl, true, sbq, hm, ((kz0.gr G24).gr G25)⟩
   replace hm := cnd_f c10 hm
   refine qm rfl<|qe rfl (ev_litT [1, 3] ic bsl_32_2 rfl rfl (ws_of rfl) rfl rfl rfl) ?_
   rintro vw26 w26 ⟨gw26, hbw26, Ow26, G26⟩
   have z60 := G26.size
   have lt61 := Ow26.lth
   have Y3 := Gr.trans (Gr.trans G5 G6) G7
   have B62 := (((((((O4_r0_s.gr Y3).md M8 (pb_lt lt6)).gr Y1).md M12 (pb_lt lt6)).gr G24).gr G25).gr G26)
   obtain ⟨x16, hx16, hm⟩ := bnd hm
   refine qe rfl (eC en_18 rfl (ref03_SameInts_w hx16 (Own.rd B62) (Own.rd Ow26))) ?_
   rintro _ w27 ⟨rfl, G27⟩
   have z63 := G27.size
   refine qv rfl (vv_not rfl)<|qm rfl<|sd_nil ?_
   exact ⟨rfl, (!x16), sbq, hm, ((((kz0.gr G24).gr G25).gr G26).gr G27)⟩
 clear hm; rintro a9 w13 ⟨hm, K13⟩
 have z23 := K13.size
 unfold law10_alive_J1 at hm
 refine sw_cond rfl (fun c1 => ?_) (fun c1 => ?_)
 · replace hm := cnd_t c1 hm
   refine qs 1 rfl<|qm rfl<|qb ?_
   have X24 := (X22.kz K13)
   cases hm
   refine ⟨_, _, rfl, res_1 rfl (rv_tmp rfl), ?_⟩
   exact ⟨rfl, X24⟩
 replace hm := cnd_f c1 hm
 refine qu<|qs 4 rfl<|qe rfl (ev_litT [3] ic bsl_32_1 rfl rfl (ws_of rfl) rfl rfl rfl) ?_
 rintro vw14 w14 ⟨gw14, hbw14, Ow14, G14⟩
 have z25 := G14.size
 have lt26 := Ow14.lth
 refine qv rfl (vv_build (cs := TChoice.cs (TChoice.mk 1#8 true 2 0 103 48 1414 [3]) vw14) bs_52 rfl (fill_M rfl rfl rfl (fill_M rfl rfl rfl (fill_M rfl rfl rfl (fill_M rfl rfl rfl (fill_M rfl rfl rfl (fill_M rfl rfl rfl (fill_1 rfl (Own.oneB Ow14) rfl rfl))))))))<|qe rfl (ev_alloc (cs := TChoice.cs (TChoice.mk 0#8 false 0 0 0 0 0 []) (.slice none 0 0)) zv_52 rfl) ?_
 rintro _ w15 ⟨b15, rfl, hbw15, Bw15, G15⟩
 have z27 := G15.size
 have lt28 := Bw15.lt
 have B29 := (Ow14.gr G15)
 refine qe rfl (ev_stW agg_52 rfl rfl (TChoice.cs_ones _ _ (Own.oneB B29)) Bw15 rfl rfl) ?_
 rintro _ w16 ⟨Bw16, M16⟩
 have z30 := M16.size
 refine qd 25 rfl ?_
 obtain ⟨x10, hx10, hm⟩ := bnd hm
 refine qe rfl (eC en_34 rfl (law10_tree_w hx10)) ?_
 rintro _ w17 ⟨rfl, G17⟩
 have z31 := G17.size
 refine qe rfl (ev_litT [1, 2, 2, 2, 2] ic bsl_32_5 rfl rfl (ws_of rfl) rfl rfl rfl) ?_
 rintro vw18 w18 ⟨gw18, hbw18, Ow18, G18⟩
 have z32 := G18.size
 have lt33 := Ow18.lth
 obtain ⟨x11, hx11, hm⟩ := bnd hm
 refine qe rfl (eC en_61 rfl (law10_worsts_w hx11 (Own.rd Ow18))) ?_
 rintro _ w19 ⟨rfl, G19⟩
 have z34 := G19.size
 refine qpF rfl (vv_move rfl) (fun c2 => ?_) (fun c2 => ?_)
 · replace hm := cnd_f c2 hm
   refine qk rfl<|qk rfl<|qk rfl<|qm rfl<|qm rfl<|qk rfl<|qk rfl ?_
   refine qk rfl<|qm rfl<|qm rfl<|qk rfl<|qk rfl<|qk rfl<|qm rfl ?_
   refine qm rfl<|qk rfl<|qk rfl<|qk rfl<|qk rfl<|qm rfl<|qm rfl ?_
   refine sd_done<|sw_ret ?_
   have Y4 := Gr.trans G14 G15
   have Y5 := Gr.trans (Gr.trans G17 G18) G19
   have X50 := ((((X22.kz K13).trans Y4).md M16).trans Y5)
   cases hm
   refine ⟨_, _, rfl, res_1 rfl (rv_tmp rfl), ?_⟩
   exact ⟨rfl, X50⟩
 replace hm := cnd_t c2 hm
 obtain ⟨x12, hx12, hm⟩ := bnd hm
 refine qe rfl (eC en_34 rfl (law10_tree_w hx12)) ?_
 rintro _ w20 ⟨rfl, G20⟩
 have z35 := G20.size
 refine qe rfl (ev_litT [1, 1, 2, 2, 2] ic bsl_32_5 rfl rfl (ws_of rfl) rfl rfl rfl) ?_
 rintro vw21 w21 ⟨gw21, hbw21, Ow21, G21⟩
 have z36 := G21.size
 have lt37 := Ow21.lth
 obtain ⟨x13, hx13, hm⟩ := bnd hm
 refine qe rfl (eC en_61 rfl (law10_worsts_w hx13 (Own.rd Ow21))) ?_
 rintro _ w22 ⟨rfl, G22⟩
 have z38 := G22.size
 refine qm rfl<|qpF rfl (vv_move rfl) (fun c3 => ?_) (fun c3 => ?_)
 · replace hm := cnd_f c3 hm
   refine qk rfl<|qk rfl<|qk rfl<|qm rfl<|qm rfl<|qk rfl<|qk rfl ?_
   refine qk rfl<|qm rfl<|qm rfl<|qk rfl<|qk rfl<|qk rfl<|qk rfl ?_
   refine qm rfl<|qm rfl<|sd_done<|sw_ret ?_
   have Y6 := Gr.trans G14 G15
   have Y7 := Gr.trans (Gr.trans (Gr.trans (Gr.trans (Gr.trans G17 G18) G19) G20) G21) G22
   have X49 := ((((X22.kz K13).trans Y6).md M16).trans Y7)
   cases hm
   refine ⟨_, _, rfl, res_1 rfl (rv_tmp rfl), ?_⟩
   exact ⟨rfl, X49⟩
 replace hm := cnd_t c3 hm
 have Y8 := Gr.trans G14 G15
 have Y9 := Gr.trans (Gr.trans (Gr.trans (Gr.trans (Gr.trans G17 G18) G19) G20) G21) G22
 have B39 := ((((((Bw8.gr Y1).md M12).kz K13).gr Y8).md M16).gr Y9)
 refine qv rfl (vv_loadW agg_52 rfl B39 rfl) ?_
 have B40 := (Bw16.gr Y9)
 refine qv rfl (vv_loadW agg_52 rfl B40 rfl) ?_
 have B41 := (((((((B12.md M8 (pb_lt lt9)).gr Y1).md M12 (pb_lt lt9)).kz K13).gr Y8).md M16 (pb_lt lt9)).gr Y9)
 have B42 := ((B29.md M16 (pb_lt lt26)).gr Y9)
 obtain ⟨x14, hx14, hm⟩ := bnd hm
 refine qe rfl (eC en_31 rfl (ref10_SameChoice_w hx14 (Own.rd B41) (Own.rd B42))) ?_
 rintro _ w23 ⟨rfl, G23⟩
 have z43 := G23.size
 refine qm rfl<|qpF rfl (vv_move rfl) (fun c4 => ?_) (fun c4 => ?_)
 · replace hm := cnd_f c4 hm
   refine qk rfl<|qk rfl<|qk rfl<|qm rfl<|qm rfl<|qk rfl<|qk rfl ?_
   refine qk rfl<|qk rfl<|qm rfl<|qm rfl<|sd_done<|sw_ret ?_
   have Y10 := Gr.trans Y9 G23
   have X48 := ((((X22.kz K13).trans Y8).md M16).trans Y10)
   cases hm
   refine ⟨_, _, rfl, res_1 rfl (rv_tmp rfl), ?_⟩
   exact ⟨rfl, X48⟩
 replace hm := cnd_t c4 hm
 refine qv rfl (vv_fieldAddr fa_59_1 rfl) ?_
 have Y11 := Gr.trans Y9 G23
 have B44 := ((((Bw12.kz K13).gr Y8).md M16).gr Y11)
 refine qv rfl (vv_load1 (v := bv x8.1.Best) one_5 rfl B44 rfl)<|qv rfl (vv_eqlB (p := x8.1.Best) (q := 1#8) rfl rfl)<|qm rfl<|qpF rfl (vv_move rfl) (fun c5 => ?_) (fun c5 => ?_)
 · replace hm := iF c5 hm
   refine qk rfl<|qk rfl<|qk rfl<|qk rfl<|qm rfl<|qm rfl<|sd_done ?_
   refine sw_ret ?_
   have X47 := ((((X22.kz K13).trans Y8).md M16).trans Y11)
   cases hm
   refine ⟨_, _, rfl, res_1 rfl (rv_tmp rfl), ?_⟩
   exact ⟨rfl, X47⟩
 replace hm := iT c5 hm
 refine qv rfl (vv_fieldAddr fa_59_0 rfl)<|qv rfl (vv_load1 (v := u10_r0_0) one_57 rfl B44 rfl) ?_
 have B45 := (((((B20.md M12 (tk1 (pb_lt (b := b11) lt17)) (fun x hx => .inr (by have := fl16 x hx; omega))).kz K13 tk0 (fun x hx => tk0)).gr Y8).md M16 (tk1 (pb_lt (b := b15) lt17)) (fun x hx => .inr (by have := fl16 x hx; omega))).gr Y11)
 refine qv rfl (vv_lenD (l := x8.1.Choices) Try.underlying57 rfl (OwnD.rd B45))<|qv rfl (vv_eql (a := (x8.1.Choices.length : Int)) (b := 4) rfl rfl)<|qm rfl<|qm rfl<|sd_done<|sw_ret ?_
 have X46 := ((((X22.kz K13).trans Y8).md M16).trans Y11)
 cases hm
 refine ⟨_, _, rfl, res_1 rfl (rv_tmp rfl), ?_⟩
 exact ⟨rfl, X46⟩
end Go.Proofs.Ytopkalcefepilaa.Mx
