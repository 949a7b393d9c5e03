/- Walks that follow mirrors: Xf. Printed by mx.py. -/
import Derived.Test.YtjdffpglgkefmaaGreatXe
import Derived.Test.YtjdffpglgkefmaaGreatZd
set_option linter.unusedVariables false
set_option linter.unusedSimpArgs false
set_option maxRecDepth 100000
set_option maxHeartbeats 16000000
namespace Go.Proofs.YtjdffpglgkefmaaGreat.Mx
open Go Go.RowKit Go.Sx
theorem zv_65 : ZV Tryz.prog 65 (.agg [.int .i64 0, .int .i64 0, .int .i64 0, .int .i64 0, .int .i64 0].toArray) := fun _ => by kernel_rfl
theorem bs_65 : BS Tryz.prog 65 (fun i => [(0, 1), (1, 1), (2, 1), (3, 1), (4, 1)][i]?) [.int .i64 0, .int .i64 0, .int .i64 0, .int .i64 0, .int .i64 0] := bs_mk Tryz.underlying65 zv_65 ⟨rfl, (one_3).siz, rfl, (one_3).siz, rfl, (one_3).siz, rfl, (one_3).siz, rfl, (one_3).siz, trivial⟩
theorem en_55 : En Tryz.prog 55 := fun _ _ => by kernel_rfl
theorem en_46 : En Tryz.prog 46 := fun _ _ => by kernel_rfl
theorem en_45 : En Tryz.prog 45 := fun _ _ => by kernel_rfl
theorem en_47 : En Tryz.prog 47 := fun _ _ => by kernel_rfl
theorem bsl_44_2 : BSl Tryz.prog 44 2 3 1 [.int .i64 0, .int .i64 0] := bsl_mk Tryz.underlying44 (one_3).siz zv_3 rfl rfl (by kernel_rfl)
theorem en_28 : En Tryz.prog 28 := fun _ _ => by kernel_rfl
theorem ba_23 : BA Tryz.prog 23 1 [.int .u8 0, .int .u8 0, .int .u8 0, .int .u8 0, .int .u8 0, .int .u8 0, .int .u8 0, .int .u8 0, .int .u8 0, .int .u8 0, .int .u8 0, .int .u8 0, .int .u8 0, .int .u8 0, .int .u8 0, .int .u8 0] := ⟨_, _, Tryz.underlying23, (one_5).siz, zv_23⟩
theorem en_59 : En Tryz.prog 59 := fun _ _ => by kernel_rfl
theorem en_29 : En Tryz.prog 29 := fun _ _ => by kernel_rfl
theorem bsl_50_3 : BSl Tryz.prog 50 3 5 1 [.int .u8 0, .int .u8 0, .int .u8 0] := bsl_mk Tryz.underlying50 (one_5).siz zv_5 rfl rfl (by kernel_rfl)
theorem en_31 : En Tryz.prog 31 := fun _ _ => by kernel_rfl
theorem en_35 : En Tryz.prog 35 := fun _ _ => by kernel_rfl
theorem en_37 : En Tryz.prog 37 := fun _ _ => by kernel_rfl
theorem law05_hour_w {r} (hm : law05_hour = some r) {w : World} :
    Calls Tryz.prog 55 [].toArray w fun e w' => ∃ v, e = .returned v ∧ (v = .agg (TAir.cs r).toArray ∧ Gr w w') := by
 unfold law05_hour at hm
 refine calls_of_sw 2 Tryz.func55 rfl rfl rfl<|qs 1 rfl<|qe rfl (ev_alloc (cs := TAir.cs (TAir.mk 0 0 0 0 0)) zv_65 rfl) ?_
 rintro _ w1 ⟨b1, rfl, hbw1, Bw1, G1⟩
 have z1 := G1.size
 have lt2 := Bw1.lt
 refine qd 2 rfl<|qv rfl (vv_build (cs := TAir.cs (TAir.mk 100 10 20 6 2)) bs_65 rfl rfl)<|qe rfl (ev_stW agg_65 rfl rfl rfl Bw1 rfl rfl) ?_
 rintro _ w2 ⟨Bw2, M2⟩
 have z3 := M2.size
 refine sd_done<|sw_ret ?_
 have X4 := (((Gr.refl w).trans G1).md M2)
 cases hm
 refine ⟨_, _, rfl, res_1 rfl (rv_cellW agg_65 rfl Bw2 rfl), ?_⟩
 exact ⟨rfl, X4⟩
theorem law05_sameInts_w {p0 p1 vp0 zp0 gp0 op0 vp1 zp1 gp1 op1 r} (hm : law05_sameInts p0 p1 = some r) {w : World} (hp0 : Rd w zp0 gp0 op0 1 vp0 (p0.map ic)) (hp1 : Rd w zp1 gp1 op1 1 vp1 (p1.map ic)) :
    Calls Tryz.prog 28 [vp0, vp1].toArray w fun e w' => ∃ v, e = .returned v ∧ (v = .bool r ∧ Gr w w') := by
 have lt1 := hp0.lth
 have lt2 := hp1.lth
 unfold law05_sameInts at hm
 refine calls_of_sw 26 Tryz.func28 rfl rfl rfl<|qs 1 rfl<|qm rfl<|sd_done<|sw_seq<|sw_seq ?_
 refine qg 5 rfl<|qm rfl<|qv rfl (vv_lenT (l := p0) (c := ic) Tryz.underlying44 rfl hp0)<|qm rfl<|qv rfl (vv_lenT (l := p1) (c := ic) Tryz.underlying44 rfl hp1)<|qv rfl (vv_neq (a := (p0.length : Int)) (b := (p1.length : Int)) rfl rfl)<|sd_done ?_
 refine sw_cond rfl (fun c1 => ?_) (fun c1 => ?_)
 · replace hm := iT c1 hm
   refine qs 1 rfl<|qm rfl<|qb ?_
   cases hm
   refine ⟨_, _, rfl, res_1 rfl (rv_tmp rfl), ?_⟩
   exact ⟨rfl, (Gr.refl w)⟩
 replace hm := iF c1 hm
 refine qu<|sw_seq<|qs 3 rfl<|qm rfl<|qv rfl (vv_lenT (l := p0) (c := ic) Tryz.underlying44 rfl hp0) ?_
 refine qm rfl<|sd_done<|sw_block<|sw_loopD (α := Nat × Int) ([4, 5] ++ rg 13 13) (fun ⟨n1, a2⟩ => [(4, .bool false), (13, .int .i64 a2)]) (fun ⟨n1, a2⟩ wr => (fixN (law05_sameInts_L1 p0 p1) n1 a2 = some r) ∧ Kz [] w wr) (fun ⟨n1, a2⟩ => n1) ⟨FUEL, 0⟩ ?_ ?_ ?_
 · exact sbq
 · exact ⟨hm, Kz.refl _ _⟩
 clear hm; rintro ⟨n1, a2⟩ w1 ⟨hm, K1⟩
 have z3 := K1.size
 have hb := fix_succ hm; clear hm; obtain ⟨n1, rfl, hm⟩ := hb
 generalize hrec1 : fixN (law05_sameInts_L1 p0 p1) n1 = rec1 at hm
 unfold law05_sameInts_L1 at hm
 try dsimp only at hm
 refine qs 1 rfl<|qv rfl (vv_lss (a := a2) (b := (p0.length : Int)) rfl rfl)<|sd_done<|sw_seq<|cnF rfl (fun c2 => ?_) (fun c2 => ?_)
 · replace hm := iF c2 hm
   refine sw_exit<|then_x<|then_x<|block_x<|then_n<|qs 1 rfl ?_
   refine qm rfl<|sd_done<|sw_ret ?_
   have X8 := ((Gr.refl w).kz K1)
   cases hm
   refine ⟨_, _, rfl, res_1 rfl (rv_tmp rfl), ?_⟩
   exact ⟨rfl, X8⟩
 replace hm := iT c2 hm
 refine qu<|sw_seq<|sw_block<|qs 2 rfl<|qm rfl ?_
 refine qm rfl<|sd_done<|sw_seq<|dw [([])] [] (.leaf [(0,10),(1,10),(2,10),(3,10),(4,10),(5,10),(6,10),(7,10),(8,10)]) ?_
 intro w2 G2 zw2
 refine sdz_leaf<|dm 0 rfl rfl<|dm 0 rfl rfl ?_
 obtain ⟨y3, hy3, hm⟩ := bnd hm
 have B4 := ((hp0.kz K1).gr G2)
 refine dh 0 rfl rfl (fun w hS => vv_ixT (i := a2) Tryz.underlying44 (one_3).siz rfl (Rd.kp B4 hS) rfl hy3)<|dh 0 rfl rfl (fun w hS => vv_el1T (q := 0) (u := .int .i64 y3) one_3 rfl (Rd.kp B4 hS) hy3 (by first | rfl | omega) rfl)<|dm 0 rfl rfl<|dm 0 rfl rfl ?_
 obtain ⟨y4, hy4, hm⟩ := bnd hm
 have B5 := ((hp1.kz K1).gr G2)
 refine dh 0 rfl rfl (fun w hS => vv_ixT (i := a2) Tryz.underlying44 (one_3).siz rfl (Rd.kp B5 hS) rfl hy4)<|dh 0 rfl rfl (fun w hS => vv_el1T (q := 0) (u := .int .i64 y4) one_3 rfl (Rd.kp B5 hS) hy4 (by first | rfl | omega) rfl)<|dh 0 rfl rfl (fun w hS => vv_neq (a := y3) (b := y4) rfl rfl)<|sd_done<|sw_cond rfl (fun c3 => ?_) (fun c3 => ?_)
 · replace hm := iT c3 hm
   refine qs 1 rfl<|qm rfl<|sd_done<|sw_ret<|block_r<|then_r ?_
   refine then_r<|block_r<|then_r ?_
   have X6 := (((Gr.refl w).kz K1).trans G2)
   cases hm
   refine ⟨_, _, rfl, res_1 rfl (rv_tmp rfl), ?_⟩
   exact ⟨rfl, X6⟩
 replace hm := iF c3 hm
 refine sw_skip<|block_n<|then_n<|qg 2 rfl<|qv rfl (vv_add (k := .i64) (a := a2) (b := 1) rfl rfl)<|qm rfl<|sd_nil ?_
 have K_7 : Kz [] w w2 := (K1.gr G2)
 subst hrec1
 exact ⟨rfl, ⟨n1, w64 (a2 + 1)⟩, sbq, ⟨hm, K_7⟩, Nat.lt_succ_self _⟩
theorem law05_four_w {r} (hm : law05_four = some r) {w : World} :
    Calls Tryz.prog 59 [].toArray w fun e w' => ∃ v, e = .returned v ∧ (v = .agg (TScheme.cs r).toArray ∧ Gr w w') := by
 unfold law05_four at hm
 refine calls_of_sw 2 Tryz.func59 rfl rfl rfl<|qs 1 rfl<|qe rfl (ev_alloc (cs := TScheme.cs (TScheme.mk 0#8 0 0 (TGroup.mk 0#64 0#64 0#64))) zv_28 rfl) ?_
 rintro _ w1 ⟨b1, rfl, hbw1, Bw1, G1⟩
 have z1 := G1.size
 have lt2 := Bw1.lt
 refine qd 2 rfl<|qv rfl (vv_build (cs := TScheme.cs (TScheme.mk 2#8 2 0 (TGroup.mk 0#64 0#64 0#64))) bs_28 rfl rfl)<|qe rfl (ev_stW agg_28 rfl rfl rfl Bw1 rfl rfl) ?_
 rintro _ w2 ⟨Bw2, M2⟩
 have z3 := M2.size
 refine sd_done<|sw_ret ?_
 have X4 := (((Gr.refl w).trans G1).md M2)
 cases hm
 refine ⟨_, _, rfl, res_1 rfl (rv_cellW agg_28 rfl Bw2 rfl), ?_⟩
 exact ⟨rfl, X4⟩
theorem law05_alive_w {r} (hm : law05_alive = some r) {w : World} :
    Calls Tryz.prog 42 [].toArray w fun e w' => ∃ v, e = .returned v ∧ (v = .bool r ∧ Gr w w') := by
 unfold law05_alive at hm
 refine calls_of_sw 184 Tryz.func42 rfl rfl rfl<|qs 1 rfl<|qm rfl<|qd 7 rfl ?_
 obtain ⟨x1, hx1, hm⟩ := bnd hm
 refine qe rfl (eC en_55 rfl (law05_hour_w hx1)) ?_
 rintro _ w1 ⟨rfl, G1⟩
 have z1 := G1.size
 obtain ⟨x2, hx2, hm⟩ := bnd hm
 refine qe rfl (eC en_90 rfl (epoch_EpochOf_w hx2)) ?_
 rintro _ w2 ⟨rfl, G2⟩
 have z2 := G2.size
 refine qm rfl<|qm rfl<|qm rfl<|qm rfl<|qm rfl<|sd_done<|sw_seq ?_
 refine qg 7 rfl ?_
 obtain ⟨x3, hx3, hm⟩ := bnd hm
 refine qe rfl (eC en_55 rfl (law05_hour_w hx3)) ?_
 rintro _ w3 ⟨rfl, G3⟩
 have z3 := G3.size
 obtain ⟨x4, hx4, hm⟩ := bnd hm
 refine qe rfl (eC en_44 rfl (epoch_PeriodOf_w hx4)) ?_
 rintro _ w4 ⟨rfl, G4⟩
 have z4 := G4.size
 refine qm rfl<|qm rfl<|qm rfl<|qm rfl<|qm rfl<|sd_done<|sw_seq ?_
 refine qg 7 rfl ?_
 obtain ⟨x5, hx5, hm⟩ := bnd hm
 refine qe rfl (eC en_55 rfl (law05_hour_w hx5)) ?_
 rintro _ w5 ⟨rfl, G5⟩
 have z5 := G5.size
 obtain ⟨x6, hx6, hm⟩ := bnd hm
 refine qe rfl (eC en_46 rfl (epoch_Due_w hx6)) ?_
 rintro _ w6 ⟨u6_r0_s, z6_r0_s, g6_r0_s, rfl, O6_r0_s, f6_r0_s, G6⟩
 have z6 := G6.size
 have lt7 := O6_r0_s.lth
 refine qm rfl<|qm rfl<|qm rfl<|qm rfl<|qm rfl<|sd_done<|sw_seq ?_
 refine qg 7 rfl ?_
 obtain ⟨x7, hx7, hm⟩ := bnd hm
 refine qe rfl (eC en_55 rfl (law05_hour_w hx7)) ?_
 rintro _ w7 ⟨rfl, G7⟩
 have z8 := G7.size
 obtain ⟨x8, hx8, hm⟩ := bnd hm
 refine qe rfl (eC en_45 rfl (epoch_Resolve_w hx8)) ?_
 rintro _ w8 ⟨rfl, G8⟩
 have z9 := G8.size
 refine qm rfl<|qm rfl<|qm rfl<|qm rfl<|qm rfl<|sd_done<|sw_seq ?_
 refine qg 7 rfl ?_
 obtain ⟨x9, hx9, hm⟩ := bnd hm
 refine qe rfl (eC en_55 rfl (law05_hour_w hx9)) ?_
 rintro _ w9 ⟨rfl, G9⟩
 have z10 := G9.size
 obtain ⟨x10, hx10, hm⟩ := bnd hm
 refine qe rfl (eC en_47 rfl (epoch_InTime_w hx10)) ?_
 rintro _ w10 ⟨rfl, G10⟩
 have z11 := G10.size
 refine qm rfl<|qm rfl<|qm rfl<|qm rfl<|qm rfl<|sd_done<|sw_seq ?_
 have X12 := (((((((((((Gr.refl w).trans G1).trans G2).trans G3).trans G4).trans G5).trans G6).trans G7).trans G8).trans G9).trans G10)
 refine qj (β := Bool) (rg 45 40) (fun a11 => [(84, .bool a11)]) (fun a11 wr => (law05_alive_J1 a11 = some r) ∧ Kz [] w10 wr) ?_ ?_
 · refine qg 40 rfl<|qm rfl<|qv rfl (vv_neq (a := x2.2) (b := 0) rfl rfl)<|qp rfl (vv_move rfl) (fun c10 => ?_) (fun c10 => ?_)
   · replace hm := iT c10 hm
     refine qk rfl<|qk rfl<|qm rfl<|qm rfl<|qk rfl<|qk rfl<|qm rfl ?_
     refine qm rfl<|qk rfl<|qk rfl<|qm rfl<|qm rfl<|qk rfl<|qk rfl ?_
     refine qm rfl<|qm rfl<|qk rfl<|qk rfl<|qk rfl<|qk rfl<|qm rfl ?_
     refine qm rfl<|qk rfl<|qk rfl<|qm rfl<|qm rfl<|qk rfl<|qk rfl ?_
     refine qm rfl<|qm rfl<|qk rfl<|qk rfl<|qm rfl<|qm rfl<|qk rfl ?_
     refine qk rfl<|qm rfl<|sd_nil ?_
     exact ⟨rfl, true, sbq, hm, kz0⟩
   replace hm := iF c10 hm
   refine qm rfl<|qv rfl (vv_neq (a := x2.1) (b := 0) rfl rfl)<|qm rfl<|qp rfl (vv_move rfl) (fun c11 => ?_) (fun c11 => ?_)
   · replace hm := iT c11 hm
     refine qk rfl<|qk rfl<|qm rfl<|qm rfl<|qk rfl<|qk rfl<|qm rfl ?_
     refine qm rfl<|qk rfl<|qk rfl<|qm rfl<|qm rfl<|qk rfl<|qk rfl ?_
     refine qk rfl<|qk rfl<|qm rfl<|qm rfl<|qk rfl<|qk rfl<|qm rfl ?_
     refine qm rfl<|qk rfl<|qk rfl<|qm rfl<|qm rfl<|qk rfl<|qk rfl ?_
     refine qm rfl<|qm rfl<|qk rfl<|qk rfl<|qm rfl<|sd_nil ?_
     exact ⟨rfl, true, sbq, hm, kz0⟩
   replace hm := iF c11 hm
   refine qm rfl<|qv rfl (vv_neq (a := x4.2) (b := 0) rfl rfl)<|qm rfl<|qp rfl (vv_move rfl) (fun c12 => ?_) (fun c12 => ?_)
   · replace hm := iT c12 hm
     refine qk rfl<|qk rfl<|qm rfl<|qm rfl<|qk rfl<|qk rfl<|qm rfl ?_
     refine qm rfl<|qk rfl<|qk rfl<|qk rfl<|qk rfl<|qm rfl<|qm rfl ?_
     refine qk rfl<|qk rfl<|qm rfl<|qm rfl<|qk rfl<|qk rfl<|qm rfl ?_
     refine qm rfl<|qk rfl<|qk rfl<|qm rfl<|qm rfl<|qk rfl<|qk rfl ?_
     refine qm rfl<|sd_nil ?_
     exact ⟨rfl, true, sbq, hm, kz0⟩
   replace hm := iF c12 hm
   refine qm rfl<|qv rfl (vv_neq (a := x4.1) (b := 9) rfl rfl)<|qm rfl<|qp rfl (vv_move rfl) (fun c13 => ?_) (fun c13 => ?_)
   · replace hm := iT c13 hm
     refine qk rfl<|qk rfl<|qm rfl<|qm rfl<|qk rfl<|qk rfl<|qk rfl ?_
     refine qk rfl<|qm rfl<|qm rfl<|qk rfl<|qk rfl<|qm rfl<|qm rfl ?_
     refine qk rfl<|qk rfl<|qm rfl<|qm rfl<|qk rfl<|qk rfl<|qm rfl ?_
     refine qm rfl<|qk rfl<|qk rfl<|qm rfl<|sd_nil ?_
     exact ⟨rfl, true, sbq, hm, kz0⟩
   replace hm := iF c13 hm
   refine qm rfl<|qv rfl (vv_neq (a := x6.2) (b := 0) rfl rfl)<|qm rfl<|qp rfl (vv_move rfl) (fun c14 => ?_) (fun c14 => ?_)
   · replace hm := iT c14 hm
     refine qk rfl<|qk rfl<|qk rfl<|qk rfl<|qm rfl<|qm rfl<|qk rfl ?_
     refine qk rfl<|qm rfl<|qm rfl<|qk rfl<|qk rfl<|qm rfl<|qm rfl ?_
     refine qk rfl<|qk rfl<|qm rfl<|qm rfl<|qk rfl<|qk rfl<|qm rfl ?_
     refine sd_nil ?_
     exact ⟨rfl, true, sbq, hm, kz0⟩
   replace hm := iF c14 hm
   refine qm rfl<|qe rfl (ev_litT [0, 1] ic bsl_44_2 rfl rfl (ws_of rfl) rfl rfl rfl) ?_
   rintro vw204 w204 ⟨gw204, hbw204, Ow204, G204⟩
   have z713 := G204.size
   have lt714 := Ow204.lth
   have B715 := (((((O6_r0_s.gr G7).gr G8).gr G9).gr G10).gr G204)
   obtain ⟨x119, hx119, hm⟩ := bnd hm
   refine qe rfl (eC en_28 rfl (law05_sameInts_w hx119 (Own.rd B715) (Own.rd Ow204))) ?_
   rintro _ w205 ⟨rfl, G205⟩
   have z716 := G205.size
   refine qv rfl (vv_not rfl)<|qm rfl<|qp rfl (vv_move rfl) (fun c15 => ?_) (fun c15 => ?_)
   · replace hm := cnd_t c15 hm
     refine qk rfl<|qk rfl<|qm rfl<|qm rfl<|qk rfl<|qk rfl<|qm rfl ?_
     refine qm rfl<|qk rfl<|qk rfl<|qm rfl<|qm rfl<|qk rfl<|qk rfl ?_
     refine qm rfl<|sd_nil ?_
     have Y1 := Gr.trans G204 G205
     exact ⟨rfl, true, sbq, hm, (kz0.gr Y1)⟩
   replace hm := cnd_f c15 hm
   refine qm rfl<|qv rfl (vv_neq (a := x8.2) (b := 0) rfl rfl)<|qm rfl<|qp rfl (vv_move rfl) (fun c16 => ?_) (fun c16 => ?_)
   · replace hm := iT c16 hm
     refine qk rfl<|qk rfl<|qm rfl<|qm rfl<|qk rfl<|qk rfl<|qm rfl ?_
     refine qm rfl<|qk rfl<|qk rfl<|qm rfl<|sd_nil ?_
     have Y2 := Gr.trans G204 G205
     exact ⟨rfl, true, sbq, hm, (kz0.gr Y2)⟩
   replace hm := iF c16 hm
   refine qm rfl<|qv rfl (vv_neq (a := x8.1) (b := 9) rfl rfl)<|qm rfl<|qp rfl (vv_move rfl) (fun c17 => ?_) (fun c17 => ?_)
   · replace hm := iT c17 hm
     refine qk rfl<|qk rfl<|qm rfl<|qm rfl<|qk rfl<|qk rfl<|qm rfl ?_
     refine sd_nil ?_
     have Y3 := Gr.trans G204 G205
     exact ⟨rfl, true, sbq, hm, (kz0.gr Y3)⟩
   replace hm := iF c17 hm
   refine qm rfl<|qv rfl (vv_neq (a := x10.2) (b := 0) rfl rfl)<|qm rfl<|qp rfl (vv_move rfl) (fun c18 => ?_) (fun c18 => ?_)
   · replace hm := iT c18 hm
     refine qk rfl<|qk rfl<|qm rfl<|sd_nil ?_
     have Y4 := Gr.trans G204 G205
     exact ⟨rfl, true, sbq, hm, (kz0.gr Y4)⟩
   replace hm := iF c18 hm
   refine qm rfl<|qv rfl (vv_not rfl)<|qm rfl<|sd_nil ?_
   have Y5 := Gr.trans G204 G205
   exact ⟨rfl, (!x10.1), sbq, hm, (kz0.gr Y5)⟩
 clear hm; rintro a11 w11 ⟨hm, K11⟩
 have z13 := K11.size
 unfold law05_alive_J1 at hm
 refine sw_cond rfl (fun c1 => ?_) (fun c1 => ?_)
 · replace hm := cnd_t c1 hm
   refine qs 1 rfl<|qm rfl<|qb ?_
   have X14 := (X12.kz K11)
   cases hm
   refine ⟨_, _, rfl, res_1 rfl (rv_tmp rfl), ?_⟩
   exact ⟨rfl, X14⟩
 replace hm := cnd_f c1 hm
 refine qu<|qs 3 rfl<|qv rfl (vv_buildA (cs := kb (72623842526232576#64, 0#64)) ba_23 rfl (by kernel_rfl))<|qe rfl (ev_alloc (cs := kb k0) zv_23 rfl) ?_
 rintro _ w12 ⟨b12, rfl, hbw12, Bw12, G12⟩
 have z15 := G12.size
 have lt16 := Bw12.lt
 refine qe rfl (ev_stW agg_23 rfl rfl rfl Bw12 rfl rfl) ?_
 rintro _ w13 ⟨Bw13, M13⟩
 have z17 := M13.size
 refine sd_done ?_
 have X18 := (((X12.kz K11).trans G12).md M13)
 refine qj (β := Int × TPacket × Nat × Value × Nat × Nat × Value × Nat × Nat × Value × Nat × Nat) ([2, 12] ++ rg 86 7) (fun ⟨a12, a14, bq13, vy15, zy15, gy15, vy16, zy16, gy16, vy17, zy17, gy17⟩ => [(2, .int .i64 a12), (12, .pointer (some ⟨bq13, 0, none⟩))]) (fun ⟨a12, a14, bq13, vy15, zy15, gy15, vy16, zy16, gy16, vy17, zy17, gy17⟩ wr => (law05_alive_J2 a12 a14 = some r) ∧ Own wr zy15 gy15 133 18 vy15 (a14.Head.Items.map TItem.cs) ∧ Hdn (zy15 = 0 ∨ w13.heap.size ≤ gy15) ∧ Own wr zy16 gy16 31 2 vy16 (a14.Head.Points.map TPoint.cs) ∧ Hdn (zy16 = 0 ∨ w13.heap.size ≤ gy16) ∧ Own wr zy17 gy17 5 1 vy17 (a14.Data.map bvc) ∧ Hdn (zy17 = 0 ∨ w13.heap.size ≤ gy17) ∧ Bx wr bq13 52 (TPacket.cs a14 vy15 vy16 vy17) ∧ w13.heap.size ≤ bq13 ∧ Hdn (zy16 = 0 ∨ zy15 = 0 ∨ gy16 ≠ gy15) ∧ Hdn (zy17 = 0 ∨ zy15 = 0 ∨ gy17 ≠ gy15) ∧ Hdn (zy17 = 0 ∨ zy16 = 0 ∨ gy17 ≠ gy16) ∧ Hdn (zy15 = 0 ∨ gy15 ≠ bq13) ∧ Hdn (zy16 = 0 ∨ gy16 ≠ bq13) ∧ Hdn (zy17 = 0 ∨ gy17 ≠ bq13) ∧ Kz [] w13 wr) ?_ ?_
 · refine dw [([])] [] (.fork [(0,10)] (.fork [(1,0)] (.fork [(2,0)] (.leaf [(3,0),(4,10),(5,10),(6,10),(7,0),(8,0),(9,10)]) (.leaf [(7,0),(3,0),(4,10),(5,10),(6,10),(8,0),(9,10)])) (.leaf [(7,0),(2,0),(3,0),(4,10),(5,10),(6,10),(8,0),(9,10)])) (.fork [] (.fork [(2,0)] (.fork [(1,0)] (.leaf [(3,0),(4,10),(5,10),(6,10),(7,0),(8,0),(9,10)]) (.leaf [(7,0),(3,0),(4,10),(5,10),(6,10),(8,0),(9,10)])) (.leaf [(7,0),(1,0),(3,0),(4,10),(5,10),(6,10),(8,0),(9,10)])) (.fork [(7,0)] (.leaf [(1,0),(2,0),(3,0),(4,10),(5,10),(6,10),(8,0),(9,10)]) (.leaf [(2,0),(1,0),(3,0),(4,10),(5,10),(6,10),(8,0),(9,10)])))) ?_
   intro w170 G170 zw170
   refine sdz_fork ?_
   have B573 := (Bw13.gr G170)
   refine dh 0 rfl rfl (fun w hS => vv_loadW agg_23 rfl (Bx.kp B573 hS) rfl)<|sd_fork ?_ (sdz_fork (sd_fork ?_ ?_))
   · refine sdz_fork ?_
     obtain ⟨x106, hx106, hm⟩ := bnd hm
     refine qz [] rfl (eC en_59 rfl (law05_four_w hx106)) ⟨fun _ => tk0, trivial⟩ ?_
     rintro _ w171 ⟨rfl, G171⟩
     have z574 := G171.size
     refine kG G171<|sd_fork ?_ ?_
     · refine sdz_fork<|qz [] rfl (ev_litT [2] ic bsl_44_1 rfl rfl (ws_of rfl) rfl rfl rfl) ⟨fun _ => tk0, trivial⟩ ?_
       rintro vw172 w172 ⟨gw172, hbw172, Ow172, G172⟩
       have z575 := G172.size
       have lt576 := Ow172.lth
       refine kG G172<|sd_fork ?_ ?_
       · refine sdz_leaf ?_
         obtain ⟨x107, hx107, hm⟩ := bnd hm
         refine qz [] rfl (eC en_29 rfl (epoch_Head_w hx107 (Own.rd Ow172))) ⟨fun _ => tk0, trivial⟩ ?_
         rintro _ w173 ⟨u173_r0_2, z173_r0_2, g173_r0_2, u173_r0_4, z173_r0_4, g173_r0_4, u173_r0_39, z173_r0_39, g173_r0_39, rfl, O173_r0_2, f173_r0_2, O173_r0_4, f173_r0_4, O173_r0_39, f173_r0_39, d173_0, d173_1, d173_2, G173⟩
         have z577 := G173.size
         have lt578 := O173_r0_2.lth
         have lt579 := O173_r0_4.lth
         have lt580 := O173_r0_39.lth
         refine kG G173 ?_
         have S581 := ((((Kp.refl ([]) w170).gr G171).gr G172).gr G173)
         refine dn 0 rfl rfl S581<|dn 0 rfl rfl S581<|dn 0 rfl rfl S581<|qz [] rfl (ev_alloc (cs := TPacket.cs (TPacket.mk 0#8 0 (THeader.mk [] 0#64 [] k0 k0) 0#8 0#64 [] k0) (.slice none 0 0) (.slice none 0 0) (.slice none 0 0)) zv_52 rfl) ⟨fun _ => tk0, trivial⟩ ?_
         rintro _ w174 ⟨b174, rfl, hbw174, Bw174, G174⟩
         have z582 := G174.size
         have lt583 := Bw174.lt
         refine kG G174 ?_
         have B584 := (O173_r0_2.gr G174)
         have B585 := (O173_r0_4.gr G174)
         have B586 := (O173_r0_39.gr G174)
         refine qz [(1, b174)] rfl (ev_stW agg_52 rfl rfl (TPacket.cs_ones _ _ _ _ (Own.oneB B584) (Own.oneB B585) (Own.oneB B586)) Bw174 rfl rfl) ⟨fun _ => tk0, trivial⟩ ?_
         rintro _ w175 ⟨Bw175, M175⟩
         have z587 := M175.size
         refine kM M175 ?_
         have S588 := ((S581.gr G174).md M175)
         refine dn 0 rfl rfl S588<|sd_nil ?_
         have K_589 : Kz [] w13 w175 := ((((((Kz.gr (Kz.refl _ _) G170).gr G171).gr G172).gr G173).gr G174).md M175)
         have B590 := (B584.md M175 (pb_lt lt578))
         have B591 := (B585.md M175 (pb_lt lt579))
         have B592 := (B586.md M175 (pb_lt lt580))
         exact ⟨rfl, ⟨x107.2, x107.1, b174, u173_r0_2, z173_r0_2, g173_r0_2, u173_r0_4, z173_r0_4, g173_r0_4, u173_r0_39, z173_r0_39, g173_r0_39⟩, sbq, hm, B590, ⟨(pv_0 (A := (fun x => w13.heap.size ≤ x)) f173_r0_2)⟩, B591, ⟨(pv_0 (A := (fun x => w13.heap.size ≤ x)) f173_r0_4)⟩, B592, ⟨(pv_0 (A := (fun x => w13.heap.size ≤ x)) f173_r0_39)⟩, Bw175, (by omega), ⟨(tk1 d173_0.o)⟩, ⟨(tk1 d173_1.o)⟩, ⟨(tk1 d173_2.o)⟩, ⟨(pv_lt (A := (fun x => x ≠ b174)) lt578)⟩, ⟨(pv_lt (A := (fun x => x ≠ b174)) lt579)⟩, ⟨(pv_lt (A := (fun x => x ≠ b174)) lt580)⟩, K_589⟩
       refine sdz_leaf<|qz [] rfl (ev_alloc (cs := TPacket.cs (TPacket.mk 0#8 0 (THeader.mk [] 0#64 [] k0 k0) 0#8 0#64 [] k0) (.slice none 0 0) (.slice none 0 0) (.slice none 0 0)) zv_52 rfl) ⟨fun _ => tk0, trivial⟩ ?_
       rintro _ w176 ⟨b176, rfl, hbw176, Bw176, G176⟩
       have z593 := G176.size
       have lt594 := Bw176.lt
       refine kG G176 ?_
       have B595 := (Ow172.gr G176)
       obtain ⟨x108, hx108, hm⟩ := bnd hm
       refine qz [] rfl (eC en_29 rfl (epoch_Head_w hx108 (Own.rd B595))) ⟨fun _ => tk0, trivial⟩ ?_
       rintro _ w177 ⟨u177_r0_2, z177_r0_2, g177_r0_2, u177_r0_4, z177_r0_4, g177_r0_4, u177_r0_39, z177_r0_39, g177_r0_39, rfl, O177_r0_2, f177_r0_2, O177_r0_4, f177_r0_4, O177_r0_39, f177_r0_39, d177_0, d177_1, d177_2, G177⟩
       have z596 := G177.size
       have lt597 := O177_r0_2.lth
       have lt598 := O177_r0_4.lth
       have lt599 := O177_r0_39.lth
       refine kG G177 ?_
       have Y6 := Gr.trans (Gr.trans (Gr.trans G171 G172) G176) G177
       have S600 := ((Kp.refl ([]) w170).gr Y6)
       refine dn 0 rfl rfl S600<|dn 0 rfl rfl S600<|dn 0 rfl rfl S600 ?_
       have B601 := (Bw176.gr G177)
       refine qz [(1, b176)] rfl (ev_stW agg_52 rfl rfl (TPacket.cs_ones _ _ _ _ (Own.oneB O177_r0_2) (Own.oneB O177_r0_4) (Own.oneB O177_r0_39)) B601 rfl rfl) ⟨fun _ => tk0, trivial⟩ ?_
       rintro _ w178 ⟨Bw178, M178⟩
       have z602 := M178.size
       refine kM M178 ?_
       have S603 := (S600.md M178)
       refine dn 0 rfl rfl S603<|sd_nil ?_
       have K_604 : Kz [] w13 w178 := (((Kz.gr (Kz.refl _ _) G170).gr Y6).md M178)
       have B605 := (O177_r0_2.md M178 (pb_0 f177_r0_2))
       have B606 := (O177_r0_4.md M178 (pb_0 f177_r0_4))
       have B607 := (O177_r0_39.md M178 (pb_0 f177_r0_39))
       exact ⟨rfl, ⟨x108.2, x108.1, b176, u177_r0_2, z177_r0_2, g177_r0_2, u177_r0_4, z177_r0_4, g177_r0_4, u177_r0_39, z177_r0_39, g177_r0_39⟩, sbq, hm, B605, ⟨(pv_0 (A := (fun x => w13.heap.size ≤ x)) f177_r0_2)⟩, B606, ⟨(pv_0 (A := (fun x => w13.heap.size ≤ x)) f177_r0_4)⟩, B607, ⟨(pv_0 (A := (fun x => w13.heap.size ≤ x)) f177_r0_39)⟩, Bw178, (by omega), ⟨(tk1 d177_0.o)⟩, ⟨(tk1 d177_1.o)⟩, ⟨(tk1 d177_2.o)⟩, ⟨(pv_0 (A := (fun x => x ≠ b176)) f177_r0_2)⟩, ⟨(pv_0 (A := (fun x => x ≠ b176)) f177_r0_4)⟩, ⟨(pv_0 (A := (fun x => x ≠ b176)) f177_r0_39)⟩, K_604⟩
     refine sdz_leaf<|qz [] rfl (ev_alloc (cs := TPacket.cs (TPacket.mk 0#8 0 (THeader.mk [] 0#64 [] k0 k0) 0#8 0#64 [] k0) (.slice none 0 0) (.slice none 0 0) (.slice none 0 0)) zv_52 rfl) ⟨fun _ => tk0, trivial⟩ ?_
     rintro _ w179 ⟨b179, rfl, hbw179, Bw179, G179⟩
     have z608 := G179.size
     have lt609 := Bw179.lt
     refine kG G179<|qz [] rfl (ev_litT [2] ic bsl_44_1 rfl rfl (ws_of rfl) rfl rfl rfl) ⟨fun _ => tk0, trivial⟩ ?_
     rintro vw180 w180 ⟨gw180, hbw180, Ow180, G180⟩
     have z610 := G180.size
     have lt611 := Ow180.lth
     refine kG G180 ?_
     obtain ⟨x109, hx109, hm⟩ := bnd hm
     refine qz [] rfl (eC en_29 rfl (epoch_Head_w hx109 (Own.rd Ow180))) ⟨fun _ => tk0, trivial⟩ ?_
     rintro _ w181 ⟨u181_r0_2, z181_r0_2, g181_r0_2, u181_r0_4, z181_r0_4, g181_r0_4, u181_r0_39, z181_r0_39, g181_r0_39, rfl, O181_r0_2, f181_r0_2, O181_r0_4, f181_r0_4, O181_r0_39, f181_r0_39, d181_0, d181_1, d181_2, G181⟩
     have z612 := G181.size
     have lt613 := O181_r0_2.lth
     have lt614 := O181_r0_4.lth
     have lt615 := O181_r0_39.lth
     refine kG G181 ?_
     have Y7 := Gr.trans (Gr.trans (Gr.trans G171 G179) G180) G181
     have S616 := ((Kp.refl ([]) w170).gr Y7)
     refine dn 0 rfl rfl S616<|dn 0 rfl rfl S616<|dn 0 rfl rfl S616 ?_
     have B617 := ((Bw179.gr G180).gr G181)
     refine qz [(1, b179)] rfl (ev_stW agg_52 rfl rfl (TPacket.cs_ones _ _ _ _ (Own.oneB O181_r0_2) (Own.oneB O181_r0_4) (Own.oneB O181_r0_39)) B617 rfl rfl) ⟨fun _ => tk0, trivial⟩ ?_
     rintro _ w182 ⟨Bw182, M182⟩
     have z618 := M182.size
     refine kM M182 ?_
     have S619 := (S616.md M182)
     refine dn 0 rfl rfl S619<|sd_nil ?_
     have K_620 : Kz [] w13 w182 := (((Kz.gr (Kz.refl _ _) G170).gr Y7).md M182)
     have B621 := (O181_r0_2.md M182 (pb_0 f181_r0_2))
     have B622 := (O181_r0_4.md M182 (pb_0 f181_r0_4))
     have B623 := (O181_r0_39.md M182 (pb_0 f181_r0_39))
     exact ⟨rfl, ⟨x109.2, x109.1, b179, u181_r0_2, z181_r0_2, g181_r0_2, u181_r0_4, z181_r0_4, g181_r0_4, u181_r0_39, z181_r0_39, g181_r0_39⟩, sbq, hm, B621, ⟨(pv_0 (A := (fun x => w13.heap.size ≤ x)) f181_r0_2)⟩, B622, ⟨(pv_0 (A := (fun x => w13.heap.size ≤ x)) f181_r0_4)⟩, B623, ⟨(pv_0 (A := (fun x => w13.heap.size ≤ x)) f181_r0_39)⟩, Bw182, (by omega), ⟨(tk1 d181_0.o)⟩, ⟨(tk1 d181_1.o)⟩, ⟨(tk1 d181_2.o)⟩, ⟨(pv_0 (A := (fun x => x ≠ b179)) f181_r0_2)⟩, ⟨(pv_0 (A := (fun x => x ≠ b179)) f181_r0_4)⟩, ⟨(pv_0 (A := (fun x => x ≠ b179)) f181_r0_39)⟩, K_620⟩
   · refine sdz_fork<|qz [] rfl (ev_litT [2] ic bsl_44_1 rfl rfl (ws_of rfl) rfl rfl rfl) ⟨fun _ => tk0, trivial⟩ ?_
     rintro vw183 w183 ⟨gw183, hbw183, Ow183, G183⟩
     have z624 := G183.size
     have lt625 := Ow183.lth
     refine kG G183<|sd_fork ?_ ?_
     · refine sdz_fork ?_
       obtain ⟨x110, hx110, hm⟩ := bnd hm
       refine qz [] rfl (eC en_59 rfl (law05_four_w hx110)) ⟨fun _ => tk0, trivial⟩ ?_
       rintro _ w184 ⟨rfl, G184⟩
       have z626 := G184.size
       refine kG G184<|sd_fork ?_ ?_
       · refine sdz_leaf ?_
         have B627 := (Ow183.gr G184)
         obtain ⟨x111, hx111, hm⟩ := bnd hm
         refine qz [] rfl (eC en_29 rfl (epoch_Head_w hx111 (Own.rd B627))) ⟨fun _ => tk0, trivial⟩ ?_
         rintro _ w185 ⟨u185_r0_2, z185_r0_2, g185_r0_2, u185_r0_4, z185_r0_4, g185_r0_4, u185_r0_39, z185_r0_39, g185_r0_39, rfl, O185_r0_2, f185_r0_2, O185_r0_4, f185_r0_4, O185_r0_39, f185_r0_39, d185_0, d185_1, d185_2, G185⟩
         have z628 := G185.size
         have lt629 := O185_r0_2.lth
         have lt630 := O185_r0_4.lth
         have lt631 := O185_r0_39.lth
         refine kG G185 ?_
         have S632 := ((((Kp.refl ([]) w170).gr G183).gr G184).gr G185)
         refine dn 0 rfl rfl S632<|dn 0 rfl rfl S632<|dn 0 rfl rfl S632<|qz [] rfl (ev_alloc (cs := TPacket.cs (TPacket.mk 0#8 0 (THeader.mk [] 0#64 [] k0 k0) 0#8 0#64 [] k0) (.slice none 0 0) (.slice none 0 0) (.slice none 0 0)) zv_52 rfl) ⟨fun _ => tk0, trivial⟩ ?_
         rintro _ w186 ⟨b186, rfl, hbw186, Bw186, G186⟩
         have z633 := G186.size
         have lt634 := Bw186.lt
         refine kG G186 ?_
         have B635 := (O185_r0_2.gr G186)
         have B636 := (O185_r0_4.gr G186)
         have B637 := (O185_r0_39.gr G186)
         refine qz [(1, b186)] rfl (ev_stW agg_52 rfl rfl (TPacket.cs_ones _ _ _ _ (Own.oneB B635) (Own.oneB B636) (Own.oneB B637)) Bw186 rfl rfl) ⟨fun _ => tk0, trivial⟩ ?_
         rintro _ w187 ⟨Bw187, M187⟩
         have z638 := M187.size
         refine kM M187 ?_
         have S639 := ((S632.gr G186).md M187)
         refine dn 0 rfl rfl S639<|sd_nil ?_
         have K_640 : Kz [] w13 w187 := ((((((Kz.gr (Kz.refl _ _) G170).gr G183).gr G184).gr G185).gr G186).md M187)
         have B641 := (B635.md M187 (pb_lt lt629))
         have B642 := (B636.md M187 (pb_lt lt630))
         have B643 := (B637.md M187 (pb_lt lt631))
         exact ⟨rfl, ⟨x111.2, x111.1, b186, u185_r0_2, z185_r0_2, g185_r0_2, u185_r0_4, z185_r0_4, g185_r0_4, u185_r0_39, z185_r0_39, g185_r0_39⟩, sbq, hm, B641, ⟨(pv_0 (A := (fun x => w13.heap.size ≤ x)) f185_r0_2)⟩, B642, ⟨(pv_0 (A := (fun x => w13.heap.size ≤ x)) f185_r0_4)⟩, B643, ⟨(pv_0 (A := (fun x => w13.heap.size ≤ x)) f185_r0_39)⟩, Bw187, (by omega), ⟨(tk1 d185_0.o)⟩, ⟨(tk1 d185_1.o)⟩, ⟨(tk1 d185_2.o)⟩, ⟨(pv_lt (A := (fun x => x ≠ b186)) lt629)⟩, ⟨(pv_lt (A := (fun x => x ≠ b186)) lt630)⟩, ⟨(pv_lt (A := (fun x => x ≠ b186)) lt631)⟩, K_640⟩
       refine sdz_leaf<|qz [] rfl (ev_alloc (cs := TPacket.cs (TPacket.mk 0#8 0 (THeader.mk [] 0#64 [] k0 k0) 0#8 0#64 [] k0) (.slice none 0 0) (.slice none 0 0) (.slice none 0 0)) zv_52 rfl) ⟨fun _ => tk0, trivial⟩ ?_
       rintro _ w188 ⟨b188, rfl, hbw188, Bw188, G188⟩
       have z644 := G188.size
       have lt645 := Bw188.lt
       refine kG G188 ?_
       have B646 := ((Ow183.gr G184).gr G188)
       obtain ⟨x112, hx112, hm⟩ := bnd hm
       refine qz [] rfl (eC en_29 rfl (epoch_Head_w hx112 (Own.rd B646))) ⟨fun _ => tk0, trivial⟩ ?_
       rintro _ w189 ⟨u189_r0_2, z189_r0_2, g189_r0_2, u189_r0_4, z189_r0_4, g189_r0_4, u189_r0_39, z189_r0_39, g189_r0_39, rfl, O189_r0_2, f189_r0_2, O189_r0_4, f189_r0_4, O189_r0_39, f189_r0_39, d189_0, d189_1, d189_2, G189⟩
       have z647 := G189.size
       have lt648 := O189_r0_2.lth
       have lt649 := O189_r0_4.lth
       have lt650 := O189_r0_39.lth
       refine kG G189 ?_
       have Y8 := Gr.trans (Gr.trans (Gr.trans G183 G184) G188) G189
       have S651 := ((Kp.refl ([]) w170).gr Y8)
       refine dn 0 rfl rfl S651<|dn 0 rfl rfl S651<|dn 0 rfl rfl S651 ?_
       have B652 := (Bw188.gr G189)
       refine qz [(1, b188)] rfl (ev_stW agg_52 rfl rfl (TPacket.cs_ones _ _ _ _ (Own.oneB O189_r0_2) (Own.oneB O189_r0_4) (Own.oneB O189_r0_39)) B652 rfl rfl) ⟨fun _ => tk0, trivial⟩ ?_
       rintro _ w190 ⟨Bw190, M190⟩
       have z653 := M190.size
       refine kM M190 ?_
       have S654 := (S651.md M190)
       refine dn 0 rfl rfl S654<|sd_nil ?_
       have K_655 : Kz [] w13 w190 := (((Kz.gr (Kz.refl _ _) G170).gr Y8).md M190)
       have B656 := (O189_r0_2.md M190 (pb_0 f189_r0_2))
       have B657 := (O189_r0_4.md M190 (pb_0 f189_r0_4))
       have B658 := (O189_r0_39.md M190 (pb_0 f189_r0_39))
       exact ⟨rfl, ⟨x112.2, x112.1, b188, u189_r0_2, z189_r0_2, g189_r0_2, u189_r0_4, z189_r0_4, g189_r0_4, u189_r0_39, z189_r0_39, g189_r0_39⟩, sbq, hm, B656, ⟨(pv_0 (A := (fun x => w13.heap.size ≤ x)) f189_r0_2)⟩, B657, ⟨(pv_0 (A := (fun x => w13.heap.size ≤ x)) f189_r0_4)⟩, B658, ⟨(pv_0 (A := (fun x => w13.heap.size ≤ x)) f189_r0_39)⟩, Bw190, (by omega), ⟨(tk1 d189_0.o)⟩, ⟨(tk1 d189_1.o)⟩, ⟨(tk1 d189_2.o)⟩, ⟨(pv_0 (A := (fun x => x ≠ b188)) f189_r0_2)⟩, ⟨(pv_0 (A := (fun x => x ≠ b188)) f189_r0_4)⟩, ⟨(pv_0 (A := (fun x => x ≠ b188)) f189_r0_39)⟩, K_655⟩
     refine sdz_leaf<|qz [] rfl (ev_alloc (cs := TPacket.cs (TPacket.mk 0#8 0 (THeader.mk [] 0#64 [] k0 k0) 0#8 0#64 [] k0) (.slice none 0 0) (.slice none 0 0) (.slice none 0 0)) zv_52 rfl) ⟨fun _ => tk0, trivial⟩ ?_
     rintro _ w191 ⟨b191, rfl, hbw191, Bw191, G191⟩
     have z659 := G191.size
     have lt660 := Bw191.lt
     refine kG G191 ?_
     obtain ⟨x113, hx113, hm⟩ := bnd hm
     refine qz [] rfl (eC en_59 rfl (law05_four_w hx113)) ⟨fun _ => tk0, trivial⟩ ?_
     rintro _ w192 ⟨rfl, G192⟩
     have z661 := G192.size
     refine kG G192 ?_
     have B662 := ((Ow183.gr G191).gr G192)
     obtain ⟨x114, hx114, hm⟩ := bnd hm
     refine qz [] rfl (eC en_29 rfl (epoch_Head_w hx114 (Own.rd B662))) ⟨fun _ => tk0, trivial⟩ ?_
     rintro _ w193 ⟨u193_r0_2, z193_r0_2, g193_r0_2, u193_r0_4, z193_r0_4, g193_r0_4, u193_r0_39, z193_r0_39, g193_r0_39, rfl, O193_r0_2, f193_r0_2, O193_r0_4, f193_r0_4, O193_r0_39, f193_r0_39, d193_0, d193_1, d193_2, G193⟩
     have z663 := G193.size
     have lt664 := O193_r0_2.lth
     have lt665 := O193_r0_4.lth
     have lt666 := O193_r0_39.lth
     refine kG G193 ?_
     have Y9 := Gr.trans (Gr.trans (Gr.trans G183 G191) G192) G193
     have S667 := ((Kp.refl ([]) w170).gr Y9)
     refine dn 0 rfl rfl S667<|dn 0 rfl rfl S667<|dn 0 rfl rfl S667 ?_
     have B668 := ((Bw191.gr G192).gr G193)
     refine qz [(1, b191)] rfl (ev_stW agg_52 rfl rfl (TPacket.cs_ones _ _ _ _ (Own.oneB O193_r0_2) (Own.oneB O193_r0_4) (Own.oneB O193_r0_39)) B668 rfl rfl) ⟨fun _ => tk0, trivial⟩ ?_
     rintro _ w194 ⟨Bw194, M194⟩
     have z669 := M194.size
     refine kM M194 ?_
     have S670 := (S667.md M194)
     refine dn 0 rfl rfl S670<|sd_nil ?_
     have K_671 : Kz [] w13 w194 := (((Kz.gr (Kz.refl _ _) G170).gr Y9).md M194)
     have B672 := (O193_r0_2.md M194 (pb_0 f193_r0_2))
     have B673 := (O193_r0_4.md M194 (pb_0 f193_r0_4))
     have B674 := (O193_r0_39.md M194 (pb_0 f193_r0_39))
     exact ⟨rfl, ⟨x114.2, x114.1, b191, u193_r0_2, z193_r0_2, g193_r0_2, u193_r0_4, z193_r0_4, g193_r0_4, u193_r0_39, z193_r0_39, g193_r0_39⟩, sbq, hm, B672, ⟨(pv_0 (A := (fun x => w13.heap.size ≤ x)) f193_r0_2)⟩, B673, ⟨(pv_0 (A := (fun x => w13.heap.size ≤ x)) f193_r0_4)⟩, B674, ⟨(pv_0 (A := (fun x => w13.heap.size ≤ x)) f193_r0_39)⟩, Bw194, (by omega), ⟨(tk1 d193_0.o)⟩, ⟨(tk1 d193_1.o)⟩, ⟨(tk1 d193_2.o)⟩, ⟨(pv_0 (A := (fun x => x ≠ b191)) f193_r0_2)⟩, ⟨(pv_0 (A := (fun x => x ≠ b191)) f193_r0_4)⟩, ⟨(pv_0 (A := (fun x => x ≠ b191)) f193_r0_39)⟩, K_671⟩
   refine sdz_fork<|qz [] rfl (ev_alloc (cs := TPacket.cs (TPacket.mk 0#8 0 (THeader.mk [] 0#64 [] k0 k0) 0#8 0#64 [] k0) (.slice none 0 0) (.slice none 0 0) (.slice none 0 0)) zv_52 rfl) ⟨fun _ => tk0, trivial⟩ ?_
   rintro _ w195 ⟨b195, rfl, hbw195, Bw195, G195⟩
   have z675 := G195.size
   have lt676 := Bw195.lt
   refine kG G195<|sd_fork ?_ ?_
   · refine sdz_leaf ?_
     obtain ⟨x115, hx115, hm⟩ := bnd hm
     refine qz [] rfl (eC en_59 rfl (law05_four_w hx115)) ⟨fun _ => tk0, trivial⟩ ?_
     rintro _ w196 ⟨rfl, G196⟩
     have z677 := G196.size
     refine kG G196<|qz [] rfl (ev_litT [2] ic bsl_44_1 rfl rfl (ws_of rfl) rfl rfl rfl) ⟨fun _ => tk0, trivial⟩ ?_
     rintro vw197 w197 ⟨gw197, hbw197, Ow197, G197⟩
     have z678 := G197.size
     have lt679 := Ow197.lth
     refine kG G197 ?_
     obtain ⟨x116, hx116, hm⟩ := bnd hm
     refine qz [] rfl (eC en_29 rfl (epoch_Head_w hx116 (Own.rd Ow197))) ⟨fun _ => tk0, trivial⟩ ?_
     rintro _ w198 ⟨u198_r0_2, z198_r0_2, g198_r0_2, u198_r0_4, z198_r0_4, g198_r0_4, u198_r0_39, z198_r0_39, g198_r0_39, rfl, O198_r0_2, f198_r0_2, O198_r0_4, f198_r0_4, O198_r0_39, f198_r0_39, d198_0, d198_1, d198_2, G198⟩
     have z680 := G198.size
     have lt681 := O198_r0_2.lth
     have lt682 := O198_r0_4.lth
     have lt683 := O198_r0_39.lth
     refine kG G198 ?_
     have Y10 := Gr.trans (Gr.trans (Gr.trans G195 G196) G197) G198
     have S684 := ((Kp.refl ([]) w170).gr Y10)
     refine dn 0 rfl rfl S684<|dn 0 rfl rfl S684<|dn 0 rfl rfl S684 ?_
     have Y11 := Gr.trans (Gr.trans G196 G197) G198
     have B685 := (Bw195.gr Y11)
     refine qz [(1, b195)] rfl (ev_stW agg_52 rfl rfl (TPacket.cs_ones _ _ _ _ (Own.oneB O198_r0_2) (Own.oneB O198_r0_4) (Own.oneB O198_r0_39)) B685 rfl rfl) ⟨fun _ => tk0, trivial⟩ ?_
     rintro _ w199 ⟨Bw199, M199⟩
     have z686 := M199.size
     refine kM M199 ?_
     have S687 := (S684.md M199)
     refine dn 0 rfl rfl S687<|sd_nil ?_
     have K_688 : Kz [] w13 w199 := (((Kz.gr (Kz.refl _ _) G170).gr Y10).md M199)
     have B689 := (O198_r0_2.md M199 (pb_0 f198_r0_2))
     have B690 := (O198_r0_4.md M199 (pb_0 f198_r0_4))
     have B691 := (O198_r0_39.md M199 (pb_0 f198_r0_39))
     exact ⟨rfl, ⟨x116.2, x116.1, b195, u198_r0_2, z198_r0_2, g198_r0_2, u198_r0_4, z198_r0_4, g198_r0_4, u198_r0_39, z198_r0_39, g198_r0_39⟩, sbq, hm, B689, ⟨(pv_0 (A := (fun x => w13.heap.size ≤ x)) f198_r0_2)⟩, B690, ⟨(pv_0 (A := (fun x => w13.heap.size ≤ x)) f198_r0_4)⟩, B691, ⟨(pv_0 (A := (fun x => w13.heap.size ≤ x)) f198_r0_39)⟩, Bw199, (by omega), ⟨(tk1 d198_0.o)⟩, ⟨(tk1 d198_1.o)⟩, ⟨(tk1 d198_2.o)⟩, ⟨(pv_0 (A := (fun x => x ≠ b195)) f198_r0_2)⟩, ⟨(pv_0 (A := (fun x => x ≠ b195)) f198_r0_4)⟩, ⟨(pv_0 (A := (fun x => x ≠ b195)) f198_r0_39)⟩, K_688⟩
   refine sdz_leaf<|qz [] rfl (ev_litT [2] ic bsl_44_1 rfl rfl (ws_of rfl) rfl rfl rfl) ⟨fun _ => tk0, trivial⟩ ?_
   rintro vw200 w200 ⟨gw200, hbw200, Ow200, G200⟩
   have z692 := G200.size
   have lt693 := Ow200.lth
   refine kG G200 ?_
   obtain ⟨x117, hx117, hm⟩ := bnd hm
   refine qz [] rfl (eC en_59 rfl (law05_four_w hx117)) ⟨fun _ => tk0, trivial⟩ ?_
   rintro _ w201 ⟨rfl, G201⟩
   have z694 := G201.size
   refine kG G201 ?_
   have B695 := (Ow200.gr G201)
   obtain ⟨x118, hx118, hm⟩ := bnd hm
   refine qz [] rfl (eC en_29 rfl (epoch_Head_w hx118 (Own.rd B695))) ⟨fun _ => tk0, trivial⟩ ?_
   rintro _ w202 ⟨u202_r0_2, z202_r0_2, g202_r0_2, u202_r0_4, z202_r0_4, g202_r0_4, u202_r0_39, z202_r0_39, g202_r0_39, rfl, O202_r0_2, f202_r0_2, O202_r0_4, f202_r0_4, O202_r0_39, f202_r0_39, d202_0, d202_1, d202_2, G202⟩
   have z696 := G202.size
   have lt697 := O202_r0_2.lth
   have lt698 := O202_r0_4.lth
   have lt699 := O202_r0_39.lth
   refine kG G202 ?_
   have Y12 := Gr.trans (Gr.trans (Gr.trans G195 G200) G201) G202
   have S700 := ((Kp.refl ([]) w170).gr Y12)
   refine dn 0 rfl rfl S700<|dn 0 rfl rfl S700<|dn 0 rfl rfl S700 ?_
   have Y13 := Gr.trans (Gr.trans G200 G201) G202
   have B701 := (Bw195.gr Y13)
   refine qz [(1, b195)] rfl (ev_stW agg_52 rfl rfl (TPacket.cs_ones _ _ _ _ (Own.oneB O202_r0_2) (Own.oneB O202_r0_4) (Own.oneB O202_r0_39)) B701 rfl rfl) ⟨fun _ => tk0, trivial⟩ ?_
   rintro _ w203 ⟨Bw203, M203⟩
   have z702 := M203.size
   refine kM M203 ?_
   have S703 := (S700.md M203)
   refine dn 0 rfl rfl S703<|sd_nil ?_
   have K_704 : Kz [] w13 w203 := (((Kz.gr (Kz.refl _ _) G170).gr Y12).md M203)
   have B705 := (O202_r0_2.md M203 (pb_0 f202_r0_2))
   have B706 := (O202_r0_4.md M203 (pb_0 f202_r0_4))
   have B707 := (O202_r0_39.md M203 (pb_0 f202_r0_39))
   exact ⟨rfl, ⟨x118.2, x118.1, b195, u202_r0_2, z202_r0_2, g202_r0_2, u202_r0_4, z202_r0_4, g202_r0_4, u202_r0_39, z202_r0_39, g202_r0_39⟩, sbq, hm, B705, ⟨(pv_0 (A := (fun x => w13.heap.size ≤ x)) f202_r0_2)⟩, B706, ⟨(pv_0 (A := (fun x => w13.heap.size ≤ x)) f202_r0_4)⟩, B707, ⟨(pv_0 (A := (fun x => w13.heap.size ≤ x)) f202_r0_39)⟩, Bw203, (by omega), ⟨(tk1 d202_0.o)⟩, ⟨(tk1 d202_1.o)⟩, ⟨(tk1 d202_2.o)⟩, ⟨(pv_0 (A := (fun x => x ≠ b195)) f202_r0_2)⟩, ⟨(pv_0 (A := (fun x => x ≠ b195)) f202_r0_4)⟩, ⟨(pv_0 (A := (fun x => x ≠ b195)) f202_r0_39)⟩, K_704⟩
 clear hm; rintro ⟨a12, a14, bq13, vy15, zy15, gy15, vy16, zy16, gy16, vy17, zy17, gy17⟩ w14 ⟨hm, Fw14_0, Fw14_1, Fw14_2, Fw14_3, Fw14_4, Fw14_5, Fw14_6, Fw14_7, Fw14_8, Fw14_9, Fw14_10, Fw14_11, Fw14_12, Fw14_13, K14⟩
 have z19 := K14.size
 have lt20 := Fw14_0.lth
 have lt21 := Fw14_2.lth
 have lt22 := Fw14_4.lth
 have lt23 := Fw14_6.lt
 unfold law05_alive_J2 at hm
 have X24 := (X18.kz K14)
 refine qj (β := Int × TPacket × Nat × Value × Nat × Nat × Value × Nat × Nat × Value × Nat × Nat) ([4, 13] ++ rg 93 8) (fun ⟨a18, a20, bq19, vy21, zy21, gy21, vy22, zy22, gy22, vy23, zy23, gy23⟩ => [(4, .int .i64 a18), (13, .pointer (some ⟨bq19, 0, none⟩))]) (fun ⟨a18, a20, bq19, vy21, zy21, gy21, vy22, zy22, gy22, vy23, zy23, gy23⟩ wr => (law05_alive_J3 a12 a14 a18 a20 = some r) ∧ Own wr zy21 gy21 133 18 vy21 (a20.Head.Items.map TItem.cs) ∧ Hdn (zy21 = 0 ∨ w14.heap.size ≤ gy21) ∧ Own wr zy22 gy22 31 2 vy22 (a20.Head.Points.map TPoint.cs) ∧ Hdn (zy22 = 0 ∨ w14.heap.size ≤ gy22) ∧ Own wr zy23 gy23 5 1 vy23 (a20.Data.map bvc) ∧ Hdn (zy23 = 0 ∨ w14.heap.size ≤ gy23) ∧ Bx wr bq19 52 (TPacket.cs a20 vy21 vy22 vy23) ∧ w14.heap.size ≤ bq19 ∧ Hdn (zy22 = 0 ∨ zy21 = 0 ∨ gy22 ≠ gy21) ∧ Hdn (zy23 = 0 ∨ zy21 = 0 ∨ gy23 ≠ gy21) ∧ Hdn (zy23 = 0 ∨ zy22 = 0 ∨ gy23 ≠ gy22) ∧ Hdn (zy21 = 0 ∨ gy21 ≠ bq19) ∧ Hdn (zy22 = 0 ∨ gy22 ≠ bq19) ∧ Hdn (zy23 = 0 ∨ gy23 ≠ bq19) ∧ Kz [] w14 wr) ?_ ?_
 · refine dw [([])] [] (.fork [(0,10)] (.fork [(1,0)] (.fork [(2,0)] (.fork [(3,0)] (.leaf [(4,0),(5,10),(6,10),(7,10),(8,0),(9,0),(10,10)]) (.leaf [(8,0),(4,0),(5,10),(6,10),(7,10),(9,0),(10,10)])) (.leaf [(8,0),(3,0),(4,0),(5,10),(6,10),(7,10),(9,0),(10,10)])) (.leaf [(8,0),(2,0),(3,0),(4,0),(5,10),(6,10),(7,10),(9,0),(10,10)])) (.fork [] (.fork [(2,0)] (.fork [(1,0)] (.fork [(3,0)] (.leaf [(4,0),(5,10),(6,10),(7,10),(8,0),(9,0),(10,10)]) (.leaf [(8,0),(4,0),(5,10),(6,10),(7,10),(9,0),(10,10)])) (.leaf [(8,0),(3,0),(4,0),(5,10),(6,10),(7,10),(9,0),(10,10)])) (.fork [] (.fork [(3,0)] (.fork [(1,0)] (.leaf [(4,0),(5,10),(6,10),(7,10),(8,0),(9,0),(10,10)]) (.leaf [(8,0),(4,0),(5,10),(6,10),(7,10),(9,0),(10,10)])) (.leaf [(8,0),(1,0),(4,0),(5,10),(6,10),(7,10),(9,0),(10,10)])) (.fork [(8,0)] (.leaf [(1,0),(3,0),(4,0),(5,10),(6,10),(7,10),(9,0),(10,10)]) (.leaf [(3,0),(1,0),(4,0),(5,10),(6,10),(7,10),(9,0),(10,10)])))) (.fork [(8,0)] (.leaf [(1,0),(2,0),(3,0),(4,0),(5,10),(6,10),(7,10),(9,0),(10,10)]) (.fork [(2,0)] (.leaf [(1,0),(3,0),(4,0),(5,10),(6,10),(7,10),(9,0),(10,10)]) (.leaf [(3,0),(1,0),(4,0),(5,10),(6,10),(7,10),(9,0),(10,10)]))))) ?_
   intro w102 G102 zw102
   refine sdz_fork ?_
   have B308 := ((Bw13.kz K14).gr G102)
   refine dh 0 rfl rfl (fun w hS => vv_loadW agg_23 rfl (Bx.kp B308 hS) rfl)<|sd_fork ?_ (sdz_fork (sd_fork ?_ ?_))
   · refine sdz_fork ?_
     obtain ⟨x82, hx82, hm⟩ := bnd hm
     refine qz [] rfl (eC en_55 rfl (law05_hour_w hx82)) ⟨fun _ => tk0, trivial⟩ ?_
     rintro _ w103 ⟨rfl, G103⟩
     have z309 := G103.size
     refine kG G103<|sd_fork ?_ ?_
     · refine sdz_fork<|qz [] rfl (ev_litT [97#8, 98#8, 99#8] bvc bsl_50_3 rfl rfl (ws_of rfl) rfl rfl rfl) ⟨fun _ => tk0, trivial⟩ ?_
       rintro vw104 w104 ⟨gw104, hbw104, Ow104, G104⟩
       have z310 := G104.size
       have lt311 := Ow104.lth
       refine kG G104<|sd_fork ?_ ?_
       · refine sdz_fork<|qz [(1, gw104)] rfl (ev_cvB Tryz.underlying50 Tryz.underlying5 rfl Ow104) ⟨fun _ => (tk1 ((.inr tk0) : 1 = 0 ∨ w102.heap.size ≤ gw104)), trivial⟩ ?_
         rintro vw105 w105 ⟨Rw105, Aw105⟩
         have z312 := Aw105.size
         have lt313 := Rw105.lth
         refine ⟨Kz.ofKa Aw105, ?_⟩
         refine sd_fork ?_ ?_
         · refine sdz_leaf ?_
           obtain ⟨x83, hx83, hm⟩ := bnd hm
           refine qz [] rfl (eC en_31 rfl (epoch_Content_w hx83 Rw105)) ⟨fun _ => tk0, trivial⟩ ?_
           rintro _ w106 ⟨u106_r0_2, z106_r0_2, g106_r0_2, u106_r0_4, z106_r0_4, g106_r0_4, u106_r0_39, z106_r0_39, g106_r0_39, rfl, O106_r0_2, f106_r0_2, O106_r0_4, f106_r0_4, O106_r0_39, f106_r0_39, d106_0, d106_1, d106_2, G106⟩
           have z314 := G106.size
           have lt315 := O106_r0_2.lth
           have lt316 := O106_r0_4.lth
           have lt317 := O106_r0_39.lth
           refine kG G106 ?_
           have Y14 := Gr.trans G103 G104
           have S318 := ((((Kp.refl ([]) w102).gr Y14).ka Aw105 (tk1 ((.inr tk0) : 1 = 0 ∨ w102.heap.size ≤ gw104))).gr G106)
           refine dn 0 rfl rfl S318<|dn 0 rfl rfl S318<|dn 0 rfl rfl S318<|qz [] rfl (ev_alloc (cs := TPacket.cs (TPacket.mk 0#8 0 (THeader.mk [] 0#64 [] k0 k0) 0#8 0#64 [] k0) (.slice none 0 0) (.slice none 0 0) (.slice none 0 0)) zv_52 rfl) ⟨fun _ => tk0, trivial⟩ ?_
           rintro _ w107 ⟨b107, rfl, hbw107, Bw107, G107⟩
           have z319 := G107.size
           have lt320 := Bw107.lt
           refine kG G107 ?_
           have B321 := (O106_r0_2.gr G107)
           have B322 := (O106_r0_4.gr G107)
           have B323 := (O106_r0_39.gr G107)
           refine qz [(1, b107)] rfl (ev_stW agg_52 rfl rfl (TPacket.cs_ones _ _ _ _ (Own.oneB B321) (Own.oneB B322) (Own.oneB B323)) Bw107 rfl rfl) ⟨fun _ => tk0, trivial⟩ ?_
           rintro _ w108 ⟨Bw108, M108⟩
           have z324 := M108.size
           refine kM M108 ?_
           have S325 := ((S318.gr G107).md M108)
           refine dn 0 rfl rfl S325<|sd_nil ?_
           have K_326 : Kz [] w14 w108 := ((((((Kz.gr (Kz.refl _ _) G102).gr Y14).ka Aw105 (tk1 ((.inr tk0) : 1 = 0 ∨ w14.heap.size ≤ gw104))).gr G106).gr G107).md M108)
           have B327 := (B321.md M108 (pb_lt lt315))
           have B328 := (B322.md M108 (pb_lt lt316))
           have B329 := (B323.md M108 (pb_lt lt317))
           exact ⟨rfl, ⟨x83.2, x83.1, b107, u106_r0_2, z106_r0_2, g106_r0_2, u106_r0_4, z106_r0_4, g106_r0_4, u106_r0_39, z106_r0_39, g106_r0_39⟩, sbq, hm, B327, ⟨(pv_0 (A := (fun x => w14.heap.size ≤ x)) f106_r0_2)⟩, B328, ⟨(pv_0 (A := (fun x => w14.heap.size ≤ x)) f106_r0_4)⟩, B329, ⟨(pv_0 (A := (fun x => w14.heap.size ≤ x)) f106_r0_39)⟩, Bw108, (by omega), ⟨(tk1 d106_0.o)⟩, ⟨(tk1 d106_1.o)⟩, ⟨(tk1 d106_2.o)⟩, ⟨(pv_lt (A := (fun x => x ≠ b107)) lt315)⟩, ⟨(pv_lt (A := (fun x => x ≠ b107)) lt316)⟩, ⟨(pv_lt (A := (fun x => x ≠ b107)) lt317)⟩, K_326⟩
         refine sdz_leaf<|qz [] rfl (ev_alloc (cs := TPacket.cs (TPacket.mk 0#8 0 (THeader.mk [] 0#64 [] k0 k0) 0#8 0#64 [] k0) (.slice none 0 0) (.slice none 0 0) (.slice none 0 0)) zv_52 rfl) ⟨fun _ => tk0, trivial⟩ ?_
         rintro _ w109 ⟨b109, rfl, hbw109, Bw109, G109⟩
         have z330 := G109.size
         have lt331 := Bw109.lt
         refine kG G109 ?_
         have B332 := (Rw105.gr G109)
         obtain ⟨x84, hx84, hm⟩ := bnd hm
         refine qz [] rfl (eC en_31 rfl (epoch_Content_w hx84 B332)) ⟨fun _ => tk0, trivial⟩ ?_
         rintro _ w110 ⟨u110_r0_2, z110_r0_2, g110_r0_2, u110_r0_4, z110_r0_4, g110_r0_4, u110_r0_39, z110_r0_39, g110_r0_39, rfl, O110_r0_2, f110_r0_2, O110_r0_4, f110_r0_4, O110_r0_39, f110_r0_39, d110_0, d110_1, d110_2, G110⟩
         have z333 := G110.size
         have lt334 := O110_r0_2.lth
         have lt335 := O110_r0_4.lth
         have lt336 := O110_r0_39.lth
         refine kG G110 ?_
         have Y15 := Gr.trans G103 G104
         have S337 := (((((Kp.refl ([]) w102).gr Y15).ka Aw105 (tk1 ((.inr tk0) : 1 = 0 ∨ w102.heap.size ≤ gw104))).gr G109).gr G110)
         refine dn 0 rfl rfl S337<|dn 0 rfl rfl S337<|dn 0 rfl rfl S337 ?_
         have B338 := (Bw109.gr G110)
         refine qz [(1, b109)] rfl (ev_stW agg_52 rfl rfl (TPacket.cs_ones _ _ _ _ (Own.oneB O110_r0_2) (Own.oneB O110_r0_4) (Own.oneB O110_r0_39)) B338 rfl rfl) ⟨fun _ => tk0, trivial⟩ ?_
         rintro _ w111 ⟨Bw111, M111⟩
         have z339 := M111.size
         refine kM M111 ?_
         have S340 := (S337.md M111)
         refine dn 0 rfl rfl S340<|sd_nil ?_
         have K_341 : Kz [] w14 w111 := ((((((Kz.gr (Kz.refl _ _) G102).gr Y15).ka Aw105 (tk1 ((.inr tk0) : 1 = 0 ∨ w14.heap.size ≤ gw104))).gr G109).gr G110).md M111)
         have B342 := (O110_r0_2.md M111 (pb_0 f110_r0_2))
         have B343 := (O110_r0_4.md M111 (pb_0 f110_r0_4))
         have B344 := (O110_r0_39.md M111 (pb_0 f110_r0_39))
         exact ⟨rfl, ⟨x84.2, x84.1, b109, u110_r0_2, z110_r0_2, g110_r0_2, u110_r0_4, z110_r0_4, g110_r0_4, u110_r0_39, z110_r0_39, g110_r0_39⟩, sbq, hm, B342, ⟨(pv_0 (A := (fun x => w14.heap.size ≤ x)) f110_r0_2)⟩, B343, ⟨(pv_0 (A := (fun x => w14.heap.size ≤ x)) f110_r0_4)⟩, B344, ⟨(pv_0 (A := (fun x => w14.heap.size ≤ x)) f110_r0_39)⟩, Bw111, (by omega), ⟨(tk1 d110_0.o)⟩, ⟨(tk1 d110_1.o)⟩, ⟨(tk1 d110_2.o)⟩, ⟨(pv_0 (A := (fun x => x ≠ b109)) f110_r0_2)⟩, ⟨(pv_0 (A := (fun x => x ≠ b109)) f110_r0_4)⟩, ⟨(pv_0 (A := (fun x => x ≠ b109)) f110_r0_39)⟩, K_341⟩
       refine sdz_leaf<|qz [] rfl (ev_alloc (cs := TPacket.cs (TPacket.mk 0#8 0 (THeader.mk [] 0#64 [] k0 k0) 0#8 0#64 [] k0) (.slice none 0 0) (.slice none 0 0) (.slice none 0 0)) zv_52 rfl) ⟨fun _ => tk0, trivial⟩ ?_
       rintro _ w112 ⟨b112, rfl, hbw112, Bw112, G112⟩
       have z345 := G112.size
       have lt346 := Bw112.lt
       refine kG G112 ?_
       have B347 := (Ow104.gr G112)
       refine qz [(1, gw104)] rfl (ev_cvB Tryz.underlying50 Tryz.underlying5 rfl B347) ⟨fun _ => (tk1 ((.inr tk0) : 1 = 0 ∨ w102.heap.size ≤ gw104)), trivial⟩ ?_
       rintro vw113 w113 ⟨Rw113, Aw113⟩
       have z348 := Aw113.size
       have lt349 := Rw113.lth
       refine ⟨Kz.ofKa Aw113, ?_⟩
       obtain ⟨x85, hx85, hm⟩ := bnd hm
       refine qz [] rfl (eC en_31 rfl (epoch_Content_w hx85 Rw113)) ⟨fun _ => tk0, trivial⟩ ?_
       rintro _ w114 ⟨u114_r0_2, z114_r0_2, g114_r0_2, u114_r0_4, z114_r0_4, g114_r0_4, u114_r0_39, z114_r0_39, g114_r0_39, rfl, O114_r0_2, f114_r0_2, O114_r0_4, f114_r0_4, O114_r0_39, f114_r0_39, d114_0, d114_1, d114_2, G114⟩
       have z350 := G114.size
       have lt351 := O114_r0_2.lth
       have lt352 := O114_r0_4.lth
       have lt353 := O114_r0_39.lth
       refine kG G114 ?_
       have S354 := ((((((Kp.refl ([]) w102).gr G103).gr G104).gr G112).ka Aw113 (tk1 ((.inr tk0) : 1 = 0 ∨ w102.heap.size ≤ gw104))).gr G114)
       refine dn 0 rfl rfl S354<|dn 0 rfl rfl S354<|dn 0 rfl rfl S354 ?_
       have B355 := ((Bw112.ka Aw113 (tk1 (pb_lt (b := b112) lt311))).gr G114)
       refine qz [(1, b112)] rfl (ev_stW agg_52 rfl rfl (TPacket.cs_ones _ _ _ _ (Own.oneB O114_r0_2) (Own.oneB O114_r0_4) (Own.oneB O114_r0_39)) B355 rfl rfl) ⟨fun _ => tk0, trivial⟩ ?_
       rintro _ w115 ⟨Bw115, M115⟩
       have z356 := M115.size
       refine kM M115 ?_
       have S357 := (S354.md M115)
       refine dn 0 rfl rfl S357<|sd_nil ?_
       have K_358 : Kz [] w14 w115 := (((((((Kz.gr (Kz.refl _ _) G102).gr G103).gr G104).gr G112).ka Aw113 (tk1 ((.inr tk0) : 1 = 0 ∨ w14.heap.size ≤ gw104))).gr G114).md M115)
       have B359 := (O114_r0_2.md M115 (pb_0 f114_r0_2))
       have B360 := (O114_r0_4.md M115 (pb_0 f114_r0_4))
       have B361 := (O114_r0_39.md M115 (pb_0 f114_r0_39))
       exact ⟨rfl, ⟨x85.2, x85.1, b112, u114_r0_2, z114_r0_2, g114_r0_2, u114_r0_4, z114_r0_4, g114_r0_4, u114_r0_39, z114_r0_39, g114_r0_39⟩, sbq, hm, B359, ⟨(pv_0 (A := (fun x => w14.heap.size ≤ x)) f114_r0_2)⟩, B360, ⟨(pv_0 (A := (fun x => w14.heap.size ≤ x)) f114_r0_4)⟩, B361, ⟨(pv_0 (A := (fun x => w14.heap.size ≤ x)) f114_r0_39)⟩, Bw115, (by omega), ⟨(tk1 d114_0.o)⟩, ⟨(tk1 d114_1.o)⟩, ⟨(tk1 d114_2.o)⟩, ⟨(pv_0 (A := (fun x => x ≠ b112)) f114_r0_2)⟩, ⟨(pv_0 (A := (fun x => x ≠ b112)) f114_r0_4)⟩, ⟨(pv_0 (A := (fun x => x ≠ b112)) f114_r0_39)⟩, K_358⟩
     refine sdz_leaf<|qz [] rfl (ev_alloc (cs := TPacket.cs (TPacket.mk 0#8 0 (THeader.mk [] 0#64 [] k0 k0) 0#8 0#64 [] k0) (.slice none 0 0) (.slice none 0 0) (.slice none 0 0)) zv_52 rfl) ⟨fun _ => tk0, trivial⟩ ?_
     rintro _ w116 ⟨b116, rfl, hbw116, Bw116, G116⟩
     have z362 := G116.size
     have lt363 := Bw116.lt
     refine kG G116<|qz [] rfl (ev_litT [97#8, 98#8, 99#8] bvc bsl_50_3 rfl rfl (ws_of rfl) rfl rfl rfl) ⟨fun _ => tk0, trivial⟩ ?_
     rintro vw117 w117 ⟨gw117, hbw117, Ow117, G117⟩
     have z364 := G117.size
     have lt365 := Ow117.lth
     refine kG G117<|qz [(1, gw117)] rfl (ev_cvB Tryz.underlying50 Tryz.underlying5 rfl Ow117) ⟨fun _ => (tk1 ((.inr tk0) : 1 = 0 ∨ w102.heap.size ≤ gw117)), trivial⟩ ?_
     rintro vw118 w118 ⟨Rw118, Aw118⟩
     have z366 := Aw118.size
     have lt367 := Rw118.lth
     refine ⟨Kz.ofKa Aw118, ?_⟩
     obtain ⟨x86, hx86, hm⟩ := bnd hm
     refine qz [] rfl (eC en_31 rfl (epoch_Content_w hx86 Rw118)) ⟨fun _ => tk0, trivial⟩ ?_
     rintro _ w119 ⟨u119_r0_2, z119_r0_2, g119_r0_2, u119_r0_4, z119_r0_4, g119_r0_4, u119_r0_39, z119_r0_39, g119_r0_39, rfl, O119_r0_2, f119_r0_2, O119_r0_4, f119_r0_4, O119_r0_39, f119_r0_39, d119_0, d119_1, d119_2, G119⟩
     have z368 := G119.size
     have lt369 := O119_r0_2.lth
     have lt370 := O119_r0_4.lth
     have lt371 := O119_r0_39.lth
     refine kG G119 ?_
     have S372 := ((((((Kp.refl ([]) w102).gr G103).gr G116).gr G117).ka Aw118 (tk1 ((.inr tk0) : 1 = 0 ∨ w102.heap.size ≤ gw117))).gr G119)
     refine dn 0 rfl rfl S372<|dn 0 rfl rfl S372<|dn 0 rfl rfl S372 ?_
     have B373 := (((Bw116.gr G117).ka Aw118 (tk1 ((.inr tk0) : 1 = 0 ∨ gw117 ≠ b116))).gr G119)
     refine qz [(1, b116)] rfl (ev_stW agg_52 rfl rfl (TPacket.cs_ones _ _ _ _ (Own.oneB O119_r0_2) (Own.oneB O119_r0_4) (Own.oneB O119_r0_39)) B373 rfl rfl) ⟨fun _ => tk0, trivial⟩ ?_
     rintro _ w120 ⟨Bw120, M120⟩
     have z374 := M120.size
     refine kM M120 ?_
     have S375 := (S372.md M120)
     refine dn 0 rfl rfl S375<|sd_nil ?_
     have K_376 : Kz [] w14 w120 := (((((((Kz.gr (Kz.refl _ _) G102).gr G103).gr G116).gr G117).ka Aw118 (tk1 ((.inr tk0) : 1 = 0 ∨ w14.heap.size ≤ gw117))).gr G119).md M120)
     have B377 := (O119_r0_2.md M120 (pb_0 f119_r0_2))
     have B378 := (O119_r0_4.md M120 (pb_0 f119_r0_4))
     have B379 := (O119_r0_39.md M120 (pb_0 f119_r0_39))
     exact ⟨rfl, ⟨x86.2, x86.1, b116, u119_r0_2, z119_r0_2, g119_r0_2, u119_r0_4, z119_r0_4, g119_r0_4, u119_r0_39, z119_r0_39, g119_r0_39⟩, sbq, hm, B377, ⟨(pv_0 (A := (fun x => w14.heap.size ≤ x)) f119_r0_2)⟩, B378, ⟨(pv_0 (A := (fun x => w14.heap.size ≤ x)) f119_r0_4)⟩, B379, ⟨(pv_0 (A := (fun x => w14.heap.size ≤ x)) f119_r0_39)⟩, Bw120, (by omega), ⟨(tk1 d119_0.o)⟩, ⟨(tk1 d119_1.o)⟩, ⟨(tk1 d119_2.o)⟩, ⟨(pv_0 (A := (fun x => x ≠ b116)) f119_r0_2)⟩, ⟨(pv_0 (A := (fun x => x ≠ b116)) f119_r0_4)⟩, ⟨(pv_0 (A := (fun x => x ≠ b116)) f119_r0_39)⟩, K_376⟩
   · refine sdz_fork<|qz [] rfl (ev_litT [97#8, 98#8, 99#8] bvc bsl_50_3 rfl rfl (ws_of rfl) rfl rfl rfl) ⟨fun _ => tk0, trivial⟩ ?_
     rintro vw121 w121 ⟨gw121, hbw121, Ow121, G121⟩
     have z380 := G121.size
     have lt381 := Ow121.lth
     refine kG G121<|sd_fork ?_ (sdz_fork (sd_fork ?_ ?_))
     · refine sdz_fork ?_
       obtain ⟨x87, hx87, hm⟩ := bnd hm
       refine qz [] rfl (eC en_55 rfl (law05_hour_w hx87)) ⟨fun _ => tk0, trivial⟩ ?_
       rintro _ w122 ⟨rfl, G122⟩
       have z382 := G122.size
       refine kG G122<|sd_fork ?_ ?_
       · refine sdz_fork ?_
         have B383 := (Ow121.gr G122)
         refine qz [(1, gw121)] rfl (ev_cvB Tryz.underlying50 Tryz.underlying5 rfl B383) ⟨fun _ => (tk1 ((.inr tk0) : 1 = 0 ∨ w102.heap.size ≤ gw121)), trivial⟩ ?_
         rintro vw123 w123 ⟨Rw123, Aw123⟩
         have z384 := Aw123.size
         have lt385 := Rw123.lth
         refine ⟨Kz.ofKa Aw123, ?_⟩
         refine sd_fork ?_ ?_
         · refine sdz_leaf ?_
           obtain ⟨x88, hx88, hm⟩ := bnd hm
           refine qz [] rfl (eC en_31 rfl (epoch_Content_w hx88 Rw123)) ⟨fun _ => tk0, trivial⟩ ?_
           rintro _ w124 ⟨u124_r0_2, z124_r0_2, g124_r0_2, u124_r0_4, z124_r0_4, g124_r0_4, u124_r0_39, z124_r0_39, g124_r0_39, rfl, O124_r0_2, f124_r0_2, O124_r0_4, f124_r0_4, O124_r0_39, f124_r0_39, d124_0, d124_1, d124_2, G124⟩
           have z386 := G124.size
           have lt387 := O124_r0_2.lth
           have lt388 := O124_r0_4.lth
           have lt389 := O124_r0_39.lth
           refine kG G124 ?_
           have Y16 := Gr.trans G121 G122
           have S390 := ((((Kp.refl ([]) w102).gr Y16).ka Aw123 (tk1 ((.inr tk0) : 1 = 0 ∨ w102.heap.size ≤ gw121))).gr G124)
           refine dn 0 rfl rfl S390<|dn 0 rfl rfl S390<|dn 0 rfl rfl S390<|qz [] rfl (ev_alloc (cs := TPacket.cs (TPacket.mk 0#8 0 (THeader.mk [] 0#64 [] k0 k0) 0#8 0#64 [] k0) (.slice none 0 0) (.slice none 0 0) (.slice none 0 0)) zv_52 rfl) ⟨fun _ => tk0, trivial⟩ ?_
           rintro _ w125 ⟨b125, rfl, hbw125, Bw125, G125⟩
           have z391 := G125.size
           have lt392 := Bw125.lt
           refine kG G125 ?_
           have B393 := (O124_r0_2.gr G125)
           have B394 := (O124_r0_4.gr G125)
           have B395 := (O124_r0_39.gr G125)
           refine qz [(1, b125)] rfl (ev_stW agg_52 rfl rfl (TPacket.cs_ones _ _ _ _ (Own.oneB B393) (Own.oneB B394) (Own.oneB B395)) Bw125 rfl rfl) ⟨fun _ => tk0, trivial⟩ ?_
           rintro _ w126 ⟨Bw126, M126⟩
           have z396 := M126.size
           refine kM M126 ?_
           have S397 := ((S390.gr G125).md M126)
           refine dn 0 rfl rfl S397<|sd_nil ?_
           have K_398 : Kz [] w14 w126 := ((((((Kz.gr (Kz.refl _ _) G102).gr Y16).ka Aw123 (tk1 ((.inr tk0) : 1 = 0 ∨ w14.heap.size ≤ gw121))).gr G124).gr G125).md M126)
           have B399 := (B393.md M126 (pb_lt lt387))
           have B400 := (B394.md M126 (pb_lt lt388))
           have B401 := (B395.md M126 (pb_lt lt389))
           exact ⟨rfl, ⟨x88.2, x88.1, b125, u124_r0_2, z124_r0_2, g124_r0_2, u124_r0_4, z124_r0_4, g124_r0_4, u124_r0_39, z124_r0_39, g124_r0_39⟩, sbq, hm, B399, ⟨(pv_0 (A := (fun x => w14.heap.size ≤ x)) f124_r0_2)⟩, B400, ⟨(pv_0 (A := (fun x => w14.heap.size ≤ x)) f124_r0_4)⟩, B401, ⟨(pv_0 (A := (fun x => w14.heap.size ≤ x)) f124_r0_39)⟩, Bw126, (by omega), ⟨(tk1 d124_0.o)⟩, ⟨(tk1 d124_1.o)⟩, ⟨(tk1 d124_2.o)⟩, ⟨(pv_lt (A := (fun x => x ≠ b125)) lt387)⟩, ⟨(pv_lt (A := (fun x => x ≠ b125)) lt388)⟩, ⟨(pv_lt (A := (fun x => x ≠ b125)) lt389)⟩, K_398⟩
         refine sdz_leaf<|qz [] rfl (ev_alloc (cs := TPacket.cs (TPacket.mk 0#8 0 (THeader.mk [] 0#64 [] k0 k0) 0#8 0#64 [] k0) (.slice none 0 0) (.slice none 0 0) (.slice none 0 0)) zv_52 rfl) ⟨fun _ => tk0, trivial⟩ ?_
         rintro _ w127 ⟨b127, rfl, hbw127, Bw127, G127⟩
         have z402 := G127.size
         have lt403 := Bw127.lt
         refine kG G127 ?_
         have B404 := (Rw123.gr G127)
         obtain ⟨x89, hx89, hm⟩ := bnd hm
         refine qz [] rfl (eC en_31 rfl (epoch_Content_w hx89 B404)) ⟨fun _ => tk0, trivial⟩ ?_
         rintro _ w128 ⟨u128_r0_2, z128_r0_2, g128_r0_2, u128_r0_4, z128_r0_4, g128_r0_4, u128_r0_39, z128_r0_39, g128_r0_39, rfl, O128_r0_2, f128_r0_2, O128_r0_4, f128_r0_4, O128_r0_39, f128_r0_39, d128_0, d128_1, d128_2, G128⟩
         have z405 := G128.size
         have lt406 := O128_r0_2.lth
         have lt407 := O128_r0_4.lth
         have lt408 := O128_r0_39.lth
         refine kG G128 ?_
         have Y17 := Gr.trans G121 G122
         have S409 := (((((Kp.refl ([]) w102).gr Y17).ka Aw123 (tk1 ((.inr tk0) : 1 = 0 ∨ w102.heap.size ≤ gw121))).gr G127).gr G128)
         refine dn 0 rfl rfl S409<|dn 0 rfl rfl S409<|dn 0 rfl rfl S409 ?_
         have B410 := (Bw127.gr G128)
         refine qz [(1, b127)] rfl (ev_stW agg_52 rfl rfl (TPacket.cs_ones _ _ _ _ (Own.oneB O128_r0_2) (Own.oneB O128_r0_4) (Own.oneB O128_r0_39)) B410 rfl rfl) ⟨fun _ => tk0, trivial⟩ ?_
         rintro _ w129 ⟨Bw129, M129⟩
         have z411 := M129.size
         refine kM M129 ?_
         have S412 := (S409.md M129)
         refine dn 0 rfl rfl S412<|sd_nil ?_
         have K_413 : Kz [] w14 w129 := ((((((Kz.gr (Kz.refl _ _) G102).gr Y17).ka Aw123 (tk1 ((.inr tk0) : 1 = 0 ∨ w14.heap.size ≤ gw121))).gr G127).gr G128).md M129)
         have B414 := (O128_r0_2.md M129 (pb_0 f128_r0_2))
         have B415 := (O128_r0_4.md M129 (pb_0 f128_r0_4))
         have B416 := (O128_r0_39.md M129 (pb_0 f128_r0_39))
         exact ⟨rfl, ⟨x89.2, x89.1, b127, u128_r0_2, z128_r0_2, g128_r0_2, u128_r0_4, z128_r0_4, g128_r0_4, u128_r0_39, z128_r0_39, g128_r0_39⟩, sbq, hm, B414, ⟨(pv_0 (A := (fun x => w14.heap.size ≤ x)) f128_r0_2)⟩, B415, ⟨(pv_0 (A := (fun x => w14.heap.size ≤ x)) f128_r0_4)⟩, B416, ⟨(pv_0 (A := (fun x => w14.heap.size ≤ x)) f128_r0_39)⟩, Bw129, (by omega), ⟨(tk1 d128_0.o)⟩, ⟨(tk1 d128_1.o)⟩, ⟨(tk1 d128_2.o)⟩, ⟨(pv_0 (A := (fun x => x ≠ b127)) f128_r0_2)⟩, ⟨(pv_0 (A := (fun x => x ≠ b127)) f128_r0_4)⟩, ⟨(pv_0 (A := (fun x => x ≠ b127)) f128_r0_39)⟩, K_413⟩
       refine sdz_leaf<|qz [] rfl (ev_alloc (cs := TPacket.cs (TPacket.mk 0#8 0 (THeader.mk [] 0#64 [] k0 k0) 0#8 0#64 [] k0) (.slice none 0 0) (.slice none 0 0) (.slice none 0 0)) zv_52 rfl) ⟨fun _ => tk0, trivial⟩ ?_
       rintro _ w130 ⟨b130, rfl, hbw130, Bw130, G130⟩
       have z417 := G130.size
       have lt418 := Bw130.lt
       refine kG G130 ?_
       have B419 := ((Ow121.gr G122).gr G130)
       refine qz [(1, gw121)] rfl (ev_cvB Tryz.underlying50 Tryz.underlying5 rfl B419) ⟨fun _ => (tk1 ((.inr tk0) : 1 = 0 ∨ w102.heap.size ≤ gw121)), trivial⟩ ?_
       rintro vw131 w131 ⟨Rw131, Aw131⟩
       have z420 := Aw131.size
       have lt421 := Rw131.lth
       refine ⟨Kz.ofKa Aw131, ?_⟩
       obtain ⟨x90, hx90, hm⟩ := bnd hm
       refine qz [] rfl (eC en_31 rfl (epoch_Content_w hx90 Rw131)) ⟨fun _ => tk0, trivial⟩ ?_
       rintro _ w132 ⟨u132_r0_2, z132_r0_2, g132_r0_2, u132_r0_4, z132_r0_4, g132_r0_4, u132_r0_39, z132_r0_39, g132_r0_39, rfl, O132_r0_2, f132_r0_2, O132_r0_4, f132_r0_4, O132_r0_39, f132_r0_39, d132_0, d132_1, d132_2, G132⟩
       have z422 := G132.size
       have lt423 := O132_r0_2.lth
       have lt424 := O132_r0_4.lth
       have lt425 := O132_r0_39.lth
       refine kG G132 ?_
       have S426 := ((((((Kp.refl ([]) w102).gr G121).gr G122).gr G130).ka Aw131 (tk1 ((.inr tk0) : 1 = 0 ∨ w102.heap.size ≤ gw121))).gr G132)
       refine dn 0 rfl rfl S426<|dn 0 rfl rfl S426<|dn 0 rfl rfl S426 ?_
       have B427 := ((Bw130.ka Aw131 (tk1 (pb_lt (b := b130) lt381))).gr G132)
       refine qz [(1, b130)] rfl (ev_stW agg_52 rfl rfl (TPacket.cs_ones _ _ _ _ (Own.oneB O132_r0_2) (Own.oneB O132_r0_4) (Own.oneB O132_r0_39)) B427 rfl rfl) ⟨fun _ => tk0, trivial⟩ ?_
       rintro _ w133 ⟨Bw133, M133⟩
       have z428 := M133.size
       refine kM M133 ?_
       have S429 := (S426.md M133)
       refine dn 0 rfl rfl S429<|sd_nil ?_
       have K_430 : Kz [] w14 w133 := (((((((Kz.gr (Kz.refl _ _) G102).gr G121).gr G122).gr G130).ka Aw131 (tk1 ((.inr tk0) : 1 = 0 ∨ w14.heap.size ≤ gw121))).gr G132).md M133)
       have B431 := (O132_r0_2.md M133 (pb_0 f132_r0_2))
       have B432 := (O132_r0_4.md M133 (pb_0 f132_r0_4))
       have B433 := (O132_r0_39.md M133 (pb_0 f132_r0_39))
       exact ⟨rfl, ⟨x90.2, x90.1, b130, u132_r0_2, z132_r0_2, g132_r0_2, u132_r0_4, z132_r0_4, g132_r0_4, u132_r0_39, z132_r0_39, g132_r0_39⟩, sbq, hm, B431, ⟨(pv_0 (A := (fun x => w14.heap.size ≤ x)) f132_r0_2)⟩, B432, ⟨(pv_0 (A := (fun x => w14.heap.size ≤ x)) f132_r0_4)⟩, B433, ⟨(pv_0 (A := (fun x => w14.heap.size ≤ x)) f132_r0_39)⟩, Bw133, (by omega), ⟨(tk1 d132_0.o)⟩, ⟨(tk1 d132_1.o)⟩, ⟨(tk1 d132_2.o)⟩, ⟨(pv_0 (A := (fun x => x ≠ b130)) f132_r0_2)⟩, ⟨(pv_0 (A := (fun x => x ≠ b130)) f132_r0_4)⟩, ⟨(pv_0 (A := (fun x => x ≠ b130)) f132_r0_39)⟩, K_430⟩
     · refine sdz_fork<|qz [(1, gw121)] rfl (ev_cvB Tryz.underlying50 Tryz.underlying5 rfl Ow121) ⟨fun _ => (tk1 ((.inr tk0) : 1 = 0 ∨ w102.heap.size ≤ gw121)), trivial⟩ ?_
       rintro vw134 w134 ⟨Rw134, Aw134⟩
       have z434 := Aw134.size
       have lt435 := Rw134.lth
       refine ⟨Kz.ofKa Aw134, ?_⟩
       refine sd_fork ?_ ?_
       · refine sdz_fork ?_
         obtain ⟨x91, hx91, hm⟩ := bnd hm
         refine qz [] rfl (eC en_55 rfl (law05_hour_w hx91)) ⟨fun _ => tk0, trivial⟩ ?_
         rintro _ w135 ⟨rfl, G135⟩
         have z436 := G135.size
         refine kG G135<|sd_fork ?_ ?_
         · refine sdz_leaf ?_
           have B437 := (Rw134.gr G135)
           obtain ⟨x92, hx92, hm⟩ := bnd hm
           refine qz [] rfl (eC en_31 rfl (epoch_Content_w hx92 B437)) ⟨fun _ => tk0, trivial⟩ ?_
           rintro _ w136 ⟨u136_r0_2, z136_r0_2, g136_r0_2, u136_r0_4, z136_r0_4, g136_r0_4, u136_r0_39, z136_r0_39, g136_r0_39, rfl, O136_r0_2, f136_r0_2, O136_r0_4, f136_r0_4, O136_r0_39, f136_r0_39, d136_0, d136_1, d136_2, G136⟩
           have z438 := G136.size
           have lt439 := O136_r0_2.lth
           have lt440 := O136_r0_4.lth
           have lt441 := O136_r0_39.lth
           refine kG G136 ?_
           have S442 := (((((Kp.refl ([]) w102).gr G121).ka Aw134 (tk1 ((.inr tk0) : 1 = 0 ∨ w102.heap.size ≤ gw121))).gr G135).gr G136)
           refine dn 0 rfl rfl S442<|dn 0 rfl rfl S442<|dn 0 rfl rfl S442<|qz [] rfl (ev_alloc (cs := TPacket.cs (TPacket.mk 0#8 0 (THeader.mk [] 0#64 [] k0 k0) 0#8 0#64 [] k0) (.slice none 0 0) (.slice none 0 0) (.slice none 0 0)) zv_52 rfl) ⟨fun _ => tk0, trivial⟩ ?_
           rintro _ w137 ⟨b137, rfl, hbw137, Bw137, G137⟩
           have z443 := G137.size
           have lt444 := Bw137.lt
           refine kG G137 ?_
           have B445 := (O136_r0_2.gr G137)
           have B446 := (O136_r0_4.gr G137)
           have B447 := (O136_r0_39.gr G137)
           refine qz [(1, b137)] rfl (ev_stW agg_52 rfl rfl (TPacket.cs_ones _ _ _ _ (Own.oneB B445) (Own.oneB B446) (Own.oneB B447)) Bw137 rfl rfl) ⟨fun _ => tk0, trivial⟩ ?_
           rintro _ w138 ⟨Bw138, M138⟩
           have z448 := M138.size
           refine kM M138 ?_
           have S449 := ((S442.gr G137).md M138)
           refine dn 0 rfl rfl S449<|sd_nil ?_
           have K_450 : Kz [] w14 w138 := (((((((Kz.gr (Kz.refl _ _) G102).gr G121).ka Aw134 (tk1 ((.inr tk0) : 1 = 0 ∨ w14.heap.size ≤ gw121))).gr G135).gr G136).gr G137).md M138)
           have B451 := (B445.md M138 (pb_lt lt439))
           have B452 := (B446.md M138 (pb_lt lt440))
           have B453 := (B447.md M138 (pb_lt lt441))
           exact ⟨rfl, ⟨x92.2, x92.1, b137, u136_r0_2, z136_r0_2, g136_r0_2, u136_r0_4, z136_r0_4, g136_r0_4, u136_r0_39, z136_r0_39, g136_r0_39⟩, sbq, hm, B451, ⟨(pv_0 (A := (fun x => w14.heap.size ≤ x)) f136_r0_2)⟩, B452, ⟨(pv_0 (A := (fun x => w14.heap.size ≤ x)) f136_r0_4)⟩, B453, ⟨(pv_0 (A := (fun x => w14.heap.size ≤ x)) f136_r0_39)⟩, Bw138, (by omega), ⟨(tk1 d136_0.o)⟩, ⟨(tk1 d136_1.o)⟩, ⟨(tk1 d136_2.o)⟩, ⟨(pv_lt (A := (fun x => x ≠ b137)) lt439)⟩, ⟨(pv_lt (A := (fun x => x ≠ b137)) lt440)⟩, ⟨(pv_lt (A := (fun x => x ≠ b137)) lt441)⟩, K_450⟩
         refine sdz_leaf<|qz [] rfl (ev_alloc (cs := TPacket.cs (TPacket.mk 0#8 0 (THeader.mk [] 0#64 [] k0 k0) 0#8 0#64 [] k0) (.slice none 0 0) (.slice none 0 0) (.slice none 0 0)) zv_52 rfl) ⟨fun _ => tk0, trivial⟩ ?_
         rintro _ w139 ⟨b139, rfl, hbw139, Bw139, G139⟩
         have z454 := G139.size
         have lt455 := Bw139.lt
         refine kG G139 ?_
         have B456 := ((Rw134.gr G135).gr G139)
         obtain ⟨x93, hx93, hm⟩ := bnd hm
         refine qz [] rfl (eC en_31 rfl (epoch_Content_w hx93 B456)) ⟨fun _ => tk0, trivial⟩ ?_
         rintro _ w140 ⟨u140_r0_2, z140_r0_2, g140_r0_2, u140_r0_4, z140_r0_4, g140_r0_4, u140_r0_39, z140_r0_39, g140_r0_39, rfl, O140_r0_2, f140_r0_2, O140_r0_4, f140_r0_4, O140_r0_39, f140_r0_39, d140_0, d140_1, d140_2, G140⟩
         have z457 := G140.size
         have lt458 := O140_r0_2.lth
         have lt459 := O140_r0_4.lth
         have lt460 := O140_r0_39.lth
         refine kG G140 ?_
         have S461 := ((((((Kp.refl ([]) w102).gr G121).ka Aw134 (tk1 ((.inr tk0) : 1 = 0 ∨ w102.heap.size ≤ gw121))).gr G135).gr G139).gr G140)
         refine dn 0 rfl rfl S461<|dn 0 rfl rfl S461<|dn 0 rfl rfl S461 ?_
         have B462 := (Bw139.gr G140)
         refine qz [(1, b139)] rfl (ev_stW agg_52 rfl rfl (TPacket.cs_ones _ _ _ _ (Own.oneB O140_r0_2) (Own.oneB O140_r0_4) (Own.oneB O140_r0_39)) B462 rfl rfl) ⟨fun _ => tk0, trivial⟩ ?_
         rintro _ w141 ⟨Bw141, M141⟩
         have z463 := M141.size
         refine kM M141 ?_
         have S464 := (S461.md M141)
         refine dn 0 rfl rfl S464<|sd_nil ?_
         have K_465 : Kz [] w14 w141 := (((((((Kz.gr (Kz.refl _ _) G102).gr G121).ka Aw134 (tk1 ((.inr tk0) : 1 = 0 ∨ w14.heap.size ≤ gw121))).gr G135).gr G139).gr G140).md M141)
         have B466 := (O140_r0_2.md M141 (pb_0 f140_r0_2))
         have B467 := (O140_r0_4.md M141 (pb_0 f140_r0_4))
         have B468 := (O140_r0_39.md M141 (pb_0 f140_r0_39))
         exact ⟨rfl, ⟨x93.2, x93.1, b139, u140_r0_2, z140_r0_2, g140_r0_2, u140_r0_4, z140_r0_4, g140_r0_4, u140_r0_39, z140_r0_39, g140_r0_39⟩, sbq, hm, B466, ⟨(pv_0 (A := (fun x => w14.heap.size ≤ x)) f140_r0_2)⟩, B467, ⟨(pv_0 (A := (fun x => w14.heap.size ≤ x)) f140_r0_4)⟩, B468, ⟨(pv_0 (A := (fun x => w14.heap.size ≤ x)) f140_r0_39)⟩, Bw141, (by omega), ⟨(tk1 d140_0.o)⟩, ⟨(tk1 d140_1.o)⟩, ⟨(tk1 d140_2.o)⟩, ⟨(pv_0 (A := (fun x => x ≠ b139)) f140_r0_2)⟩, ⟨(pv_0 (A := (fun x => x ≠ b139)) f140_r0_4)⟩, ⟨(pv_0 (A := (fun x => x ≠ b139)) f140_r0_39)⟩, K_465⟩
       refine sdz_leaf<|qz [] rfl (ev_alloc (cs := TPacket.cs (TPacket.mk 0#8 0 (THeader.mk [] 0#64 [] k0 k0) 0#8 0#64 [] k0) (.slice none 0 0) (.slice none 0 0) (.slice none 0 0)) zv_52 rfl) ⟨fun _ => tk0, trivial⟩ ?_
       rintro _ w142 ⟨b142, rfl, hbw142, Bw142, G142⟩
       have z469 := G142.size
       have lt470 := Bw142.lt
       refine kG G142 ?_
       obtain ⟨x94, hx94, hm⟩ := bnd hm
       refine qz [] rfl (eC en_55 rfl (law05_hour_w hx94)) ⟨fun _ => tk0, trivial⟩ ?_
       rintro _ w143 ⟨rfl, G143⟩
       have z471 := G143.size
       refine kG G143 ?_
       have B472 := ((Rw134.gr G142).gr G143)
       obtain ⟨x95, hx95, hm⟩ := bnd hm
       refine qz [] rfl (eC en_31 rfl (epoch_Content_w hx95 B472)) ⟨fun _ => tk0, trivial⟩ ?_
       rintro _ w144 ⟨u144_r0_2, z144_r0_2, g144_r0_2, u144_r0_4, z144_r0_4, g144_r0_4, u144_r0_39, z144_r0_39, g144_r0_39, rfl, O144_r0_2, f144_r0_2, O144_r0_4, f144_r0_4, O144_r0_39, f144_r0_39, d144_0, d144_1, d144_2, G144⟩
       have z473 := G144.size
       have lt474 := O144_r0_2.lth
       have lt475 := O144_r0_4.lth
       have lt476 := O144_r0_39.lth
       refine kG G144 ?_
       have S477 := ((((((Kp.refl ([]) w102).gr G121).ka Aw134 (tk1 ((.inr tk0) : 1 = 0 ∨ w102.heap.size ≤ gw121))).gr G142).gr G143).gr G144)
       refine dn 0 rfl rfl S477<|dn 0 rfl rfl S477<|dn 0 rfl rfl S477 ?_
       have B478 := ((Bw142.gr G143).gr G144)
       refine qz [(1, b142)] rfl (ev_stW agg_52 rfl rfl (TPacket.cs_ones _ _ _ _ (Own.oneB O144_r0_2) (Own.oneB O144_r0_4) (Own.oneB O144_r0_39)) B478 rfl rfl) ⟨fun _ => tk0, trivial⟩ ?_
       rintro _ w145 ⟨Bw145, M145⟩
       have z479 := M145.size
       refine kM M145 ?_
       have S480 := (S477.md M145)
       refine dn 0 rfl rfl S480<|sd_nil ?_
       have K_481 : Kz [] w14 w145 := (((((((Kz.gr (Kz.refl _ _) G102).gr G121).ka Aw134 (tk1 ((.inr tk0) : 1 = 0 ∨ w14.heap.size ≤ gw121))).gr G142).gr G143).gr G144).md M145)
       have B482 := (O144_r0_2.md M145 (pb_0 f144_r0_2))
       have B483 := (O144_r0_4.md M145 (pb_0 f144_r0_4))
       have B484 := (O144_r0_39.md M145 (pb_0 f144_r0_39))
       exact ⟨rfl, ⟨x95.2, x95.1, b142, u144_r0_2, z144_r0_2, g144_r0_2, u144_r0_4, z144_r0_4, g144_r0_4, u144_r0_39, z144_r0_39, g144_r0_39⟩, sbq, hm, B482, ⟨(pv_0 (A := (fun x => w14.heap.size ≤ x)) f144_r0_2)⟩, B483, ⟨(pv_0 (A := (fun x => w14.heap.size ≤ x)) f144_r0_4)⟩, B484, ⟨(pv_0 (A := (fun x => w14.heap.size ≤ x)) f144_r0_39)⟩, Bw145, (by omega), ⟨(tk1 d144_0.o)⟩, ⟨(tk1 d144_1.o)⟩, ⟨(tk1 d144_2.o)⟩, ⟨(pv_0 (A := (fun x => x ≠ b142)) f144_r0_2)⟩, ⟨(pv_0 (A := (fun x => x ≠ b142)) f144_r0_4)⟩, ⟨(pv_0 (A := (fun x => x ≠ b142)) f144_r0_39)⟩, K_481⟩
     refine sdz_fork<|qz [] rfl (ev_alloc (cs := TPacket.cs (TPacket.mk 0#8 0 (THeader.mk [] 0#64 [] k0 k0) 0#8 0#64 [] k0) (.slice none 0 0) (.slice none 0 0) (.slice none 0 0)) zv_52 rfl) ⟨fun _ => tk0, trivial⟩ ?_
     rintro _ w146 ⟨b146, rfl, hbw146, Bw146, G146⟩
     have z485 := G146.size
     have lt486 := Bw146.lt
     refine kG G146<|sd_fork ?_ ?_
     · refine sdz_leaf ?_
       obtain ⟨x96, hx96, hm⟩ := bnd hm
       refine qz [] rfl (eC en_55 rfl (law05_hour_w hx96)) ⟨fun _ => tk0, trivial⟩ ?_
       rintro _ w147 ⟨rfl, G147⟩
       have z487 := G147.size
       refine kG G147 ?_
       have B488 := ((Ow121.gr G146).gr G147)
       refine qz [(1, gw121)] rfl (ev_cvB Tryz.underlying50 Tryz.underlying5 rfl B488) ⟨fun _ => (tk1 ((.inr tk0) : 1 = 0 ∨ w102.heap.size ≤ gw121)), trivial⟩ ?_
       rintro vw148 w148 ⟨Rw148, Aw148⟩
       have z489 := Aw148.size
       have lt490 := Rw148.lth
       refine ⟨Kz.ofKa Aw148, ?_⟩
       obtain ⟨x97, hx97, hm⟩ := bnd hm
       refine qz [] rfl (eC en_31 rfl (epoch_Content_w hx97 Rw148)) ⟨fun _ => tk0, trivial⟩ ?_
       rintro _ w149 ⟨u149_r0_2, z149_r0_2, g149_r0_2, u149_r0_4, z149_r0_4, g149_r0_4, u149_r0_39, z149_r0_39, g149_r0_39, rfl, O149_r0_2, f149_r0_2, O149_r0_4, f149_r0_4, O149_r0_39, f149_r0_39, d149_0, d149_1, d149_2, G149⟩
       have z491 := G149.size
       have lt492 := O149_r0_2.lth
       have lt493 := O149_r0_4.lth
       have lt494 := O149_r0_39.lth
       refine kG G149 ?_
       have S495 := ((((((Kp.refl ([]) w102).gr G121).gr G146).gr G147).ka Aw148 (tk1 ((.inr tk0) : 1 = 0 ∨ w102.heap.size ≤ gw121))).gr G149)
       refine dn 0 rfl rfl S495<|dn 0 rfl rfl S495<|dn 0 rfl rfl S495 ?_
       have B496 := (((Bw146.gr G147).ka Aw148 (tk1 (pb_lt (b := b146) lt381))).gr G149)
       refine qz [(1, b146)] rfl (ev_stW agg_52 rfl rfl (TPacket.cs_ones _ _ _ _ (Own.oneB O149_r0_2) (Own.oneB O149_r0_4) (Own.oneB O149_r0_39)) B496 rfl rfl) ⟨fun _ => tk0, trivial⟩ ?_
       rintro _ w150 ⟨Bw150, M150⟩
       have z497 := M150.size
       refine kM M150 ?_
       have S498 := (S495.md M150)
       refine dn 0 rfl rfl S498<|sd_nil ?_
       have K_499 : Kz [] w14 w150 := (((((((Kz.gr (Kz.refl _ _) G102).gr G121).gr G146).gr G147).ka Aw148 (tk1 ((.inr tk0) : 1 = 0 ∨ w14.heap.size ≤ gw121))).gr G149).md M150)
       have B500 := (O149_r0_2.md M150 (pb_0 f149_r0_2))
       have B501 := (O149_r0_4.md M150 (pb_0 f149_r0_4))
       have B502 := (O149_r0_39.md M150 (pb_0 f149_r0_39))
       exact ⟨rfl, ⟨x97.2, x97.1, b146, u149_r0_2, z149_r0_2, g149_r0_2, u149_r0_4, z149_r0_4, g149_r0_4, u149_r0_39, z149_r0_39, g149_r0_39⟩, sbq, hm, B500, ⟨(pv_0 (A := (fun x => w14.heap.size ≤ x)) f149_r0_2)⟩, B501, ⟨(pv_0 (A := (fun x => w14.heap.size ≤ x)) f149_r0_4)⟩, B502, ⟨(pv_0 (A := (fun x => w14.heap.size ≤ x)) f149_r0_39)⟩, Bw150, (by omega), ⟨(tk1 d149_0.o)⟩, ⟨(tk1 d149_1.o)⟩, ⟨(tk1 d149_2.o)⟩, ⟨(pv_0 (A := (fun x => x ≠ b146)) f149_r0_2)⟩, ⟨(pv_0 (A := (fun x => x ≠ b146)) f149_r0_4)⟩, ⟨(pv_0 (A := (fun x => x ≠ b146)) f149_r0_39)⟩, K_499⟩
     refine sdz_leaf ?_
     have B503 := (Ow121.gr G146)
     refine qz [(1, gw121)] rfl (ev_cvB Tryz.underlying50 Tryz.underlying5 rfl B503) ⟨fun _ => (tk1 ((.inr tk0) : 1 = 0 ∨ w102.heap.size ≤ gw121)), trivial⟩ ?_
     rintro vw151 w151 ⟨Rw151, Aw151⟩
     have z504 := Aw151.size
     have lt505 := Rw151.lth
     refine ⟨Kz.ofKa Aw151, ?_⟩
     obtain ⟨x98, hx98, hm⟩ := bnd hm
     refine qz [] rfl (eC en_55 rfl (law05_hour_w hx98)) ⟨fun _ => tk0, trivial⟩ ?_
     rintro _ w152 ⟨rfl, G152⟩
     have z506 := G152.size
     refine kG G152 ?_
     have B507 := (Rw151.gr G152)
     obtain ⟨x99, hx99, hm⟩ := bnd hm
     refine qz [] rfl (eC en_31 rfl (epoch_Content_w hx99 B507)) ⟨fun _ => tk0, trivial⟩ ?_
     rintro _ w153 ⟨u153_r0_2, z153_r0_2, g153_r0_2, u153_r0_4, z153_r0_4, g153_r0_4, u153_r0_39, z153_r0_39, g153_r0_39, rfl, O153_r0_2, f153_r0_2, O153_r0_4, f153_r0_4, O153_r0_39, f153_r0_39, d153_0, d153_1, d153_2, G153⟩
     have z508 := G153.size
     have lt509 := O153_r0_2.lth
     have lt510 := O153_r0_4.lth
     have lt511 := O153_r0_39.lth
     refine kG G153 ?_
     have Y18 := Gr.trans G121 G146
     have S512 := (((((Kp.refl ([]) w102).gr Y18).ka Aw151 (tk1 ((.inr tk0) : 1 = 0 ∨ w102.heap.size ≤ gw121))).gr G152).gr G153)
     refine dn 0 rfl rfl S512<|dn 0 rfl rfl S512<|dn 0 rfl rfl S512 ?_
     have B513 := (((Bw146.ka Aw151 (tk1 (pb_lt (b := b146) lt381))).gr G152).gr G153)
     refine qz [(1, b146)] rfl (ev_stW agg_52 rfl rfl (TPacket.cs_ones _ _ _ _ (Own.oneB O153_r0_2) (Own.oneB O153_r0_4) (Own.oneB O153_r0_39)) B513 rfl rfl) ⟨fun _ => tk0, trivial⟩ ?_
     rintro _ w154 ⟨Bw154, M154⟩
     have z514 := M154.size
     refine kM M154 ?_
     have S515 := (S512.md M154)
     refine dn 0 rfl rfl S515<|sd_nil ?_
     have K_516 : Kz [] w14 w154 := ((((((Kz.gr (Kz.refl _ _) G102).gr Y18).ka Aw151 (tk1 ((.inr tk0) : 1 = 0 ∨ w14.heap.size ≤ gw121))).gr G152).gr G153).md M154)
     have B517 := (O153_r0_2.md M154 (pb_0 f153_r0_2))
     have B518 := (O153_r0_4.md M154 (pb_0 f153_r0_4))
     have B519 := (O153_r0_39.md M154 (pb_0 f153_r0_39))
     exact ⟨rfl, ⟨x99.2, x99.1, b146, u153_r0_2, z153_r0_2, g153_r0_2, u153_r0_4, z153_r0_4, g153_r0_4, u153_r0_39, z153_r0_39, g153_r0_39⟩, sbq, hm, B517, ⟨(pv_0 (A := (fun x => w14.heap.size ≤ x)) f153_r0_2)⟩, B518, ⟨(pv_0 (A := (fun x => w14.heap.size ≤ x)) f153_r0_4)⟩, B519, ⟨(pv_0 (A := (fun x => w14.heap.size ≤ x)) f153_r0_39)⟩, Bw154, (by omega), ⟨(tk1 d153_0.o)⟩, ⟨(tk1 d153_1.o)⟩, ⟨(tk1 d153_2.o)⟩, ⟨(pv_0 (A := (fun x => x ≠ b146)) f153_r0_2)⟩, ⟨(pv_0 (A := (fun x => x ≠ b146)) f153_r0_4)⟩, ⟨(pv_0 (A := (fun x => x ≠ b146)) f153_r0_39)⟩, K_516⟩
   refine sdz_fork<|qz [] rfl (ev_alloc (cs := TPacket.cs (TPacket.mk 0#8 0 (THeader.mk [] 0#64 [] k0 k0) 0#8 0#64 [] k0) (.slice none 0 0) (.slice none 0 0) (.slice none 0 0)) zv_52 rfl) ⟨fun _ => tk0, trivial⟩ ?_
   rintro _ w155 ⟨b155, rfl, hbw155, Bw155, G155⟩
   have z520 := G155.size
   have lt521 := Bw155.lt
   refine kG G155<|sd_fork ?_ ?_
   · refine sdz_leaf ?_
     obtain ⟨x100, hx100, hm⟩ := bnd hm
     refine qz [] rfl (eC en_55 rfl (law05_hour_w hx100)) ⟨fun _ => tk0, trivial⟩ ?_
     rintro _ w156 ⟨rfl, G156⟩
     have z522 := G156.size
     refine kG G156<|qz [] rfl (ev_litT [97#8, 98#8, 99#8] bvc bsl_50_3 rfl rfl (ws_of rfl) rfl rfl rfl) ⟨fun _ => tk0, trivial⟩ ?_
     rintro vw157 w157 ⟨gw157, hbw157, Ow157, G157⟩
     have z523 := G157.size
     have lt524 := Ow157.lth
     refine kG G157<|qz [(1, gw157)] rfl (ev_cvB Tryz.underlying50 Tryz.underlying5 rfl Ow157) ⟨fun _ => (tk1 ((.inr tk0) : 1 = 0 ∨ w102.heap.size ≤ gw157)), trivial⟩ ?_
     rintro vw158 w158 ⟨Rw158, Aw158⟩
     have z525 := Aw158.size
     have lt526 := Rw158.lth
     refine ⟨Kz.ofKa Aw158, ?_⟩
     obtain ⟨x101, hx101, hm⟩ := bnd hm
     refine qz [] rfl (eC en_31 rfl (epoch_Content_w hx101 Rw158)) ⟨fun _ => tk0, trivial⟩ ?_
     rintro _ w159 ⟨u159_r0_2, z159_r0_2, g159_r0_2, u159_r0_4, z159_r0_4, g159_r0_4, u159_r0_39, z159_r0_39, g159_r0_39, rfl, O159_r0_2, f159_r0_2, O159_r0_4, f159_r0_4, O159_r0_39, f159_r0_39, d159_0, d159_1, d159_2, G159⟩
     have z527 := G159.size
     have lt528 := O159_r0_2.lth
     have lt529 := O159_r0_4.lth
     have lt530 := O159_r0_39.lth
     refine kG G159 ?_
     have S531 := ((((((Kp.refl ([]) w102).gr G155).gr G156).gr G157).ka Aw158 (tk1 ((.inr tk0) : 1 = 0 ∨ w102.heap.size ≤ gw157))).gr G159)
     refine dn 0 rfl rfl S531<|dn 0 rfl rfl S531<|dn 0 rfl rfl S531 ?_
     have B532 := ((((Bw155.gr G156).gr G157).ka Aw158 (tk1 ((.inr tk0) : 1 = 0 ∨ gw157 ≠ b155))).gr G159)
     refine qz [(1, b155)] rfl (ev_stW agg_52 rfl rfl (TPacket.cs_ones _ _ _ _ (Own.oneB O159_r0_2) (Own.oneB O159_r0_4) (Own.oneB O159_r0_39)) B532 rfl rfl) ⟨fun _ => tk0, trivial⟩ ?_
     rintro _ w160 ⟨Bw160, M160⟩
     have z533 := M160.size
     refine kM M160 ?_
     have S534 := (S531.md M160)
     refine dn 0 rfl rfl S534<|sd_nil ?_
     have K_535 : Kz [] w14 w160 := (((((((Kz.gr (Kz.refl _ _) G102).gr G155).gr G156).gr G157).ka Aw158 (tk1 ((.inr tk0) : 1 = 0 ∨ w14.heap.size ≤ gw157))).gr G159).md M160)
     have B536 := (O159_r0_2.md M160 (pb_0 f159_r0_2))
     have B537 := (O159_r0_4.md M160 (pb_0 f159_r0_4))
     have B538 := (O159_r0_39.md M160 (pb_0 f159_r0_39))
     exact ⟨rfl, ⟨x101.2, x101.1, b155, u159_r0_2, z159_r0_2, g159_r0_2, u159_r0_4, z159_r0_4, g159_r0_4, u159_r0_39, z159_r0_39, g159_r0_39⟩, sbq, hm, B536, ⟨(pv_0 (A := (fun x => w14.heap.size ≤ x)) f159_r0_2)⟩, B537, ⟨(pv_0 (A := (fun x => w14.heap.size ≤ x)) f159_r0_4)⟩, B538, ⟨(pv_0 (A := (fun x => w14.heap.size ≤ x)) f159_r0_39)⟩, Bw160, (by omega), ⟨(tk1 d159_0.o)⟩, ⟨(tk1 d159_1.o)⟩, ⟨(tk1 d159_2.o)⟩, ⟨(pv_0 (A := (fun x => x ≠ b155)) f159_r0_2)⟩, ⟨(pv_0 (A := (fun x => x ≠ b155)) f159_r0_4)⟩, ⟨(pv_0 (A := (fun x => x ≠ b155)) f159_r0_39)⟩, K_535⟩
   refine sdz_fork<|qz [] rfl (ev_litT [97#8, 98#8, 99#8] bvc bsl_50_3 rfl rfl (ws_of rfl) rfl rfl rfl) ⟨fun _ => tk0, trivial⟩ ?_
   rintro vw161 w161 ⟨gw161, hbw161, Ow161, G161⟩
   have z539 := G161.size
   have lt540 := Ow161.lth
   refine kG G161<|sd_fork ?_ ?_
   · refine sdz_leaf ?_
     obtain ⟨x102, hx102, hm⟩ := bnd hm
     refine qz [] rfl (eC en_55 rfl (law05_hour_w hx102)) ⟨fun _ => tk0, trivial⟩ ?_
     rintro _ w162 ⟨rfl, G162⟩
     have z541 := G162.size
     refine kG G162 ?_
     have B542 := (Ow161.gr G162)
     refine qz [(1, gw161)] rfl (ev_cvB Tryz.underlying50 Tryz.underlying5 rfl B542) ⟨fun _ => (tk1 ((.inr tk0) : 1 = 0 ∨ w102.heap.size ≤ gw161)), trivial⟩ ?_
     rintro vw163 w163 ⟨Rw163, Aw163⟩
     have z543 := Aw163.size
     have lt544 := Rw163.lth
     refine ⟨Kz.ofKa Aw163, ?_⟩
     obtain ⟨x103, hx103, hm⟩ := bnd hm
     refine qz [] rfl (eC en_31 rfl (epoch_Content_w hx103 Rw163)) ⟨fun _ => tk0, trivial⟩ ?_
     rintro _ w164 ⟨u164_r0_2, z164_r0_2, g164_r0_2, u164_r0_4, z164_r0_4, g164_r0_4, u164_r0_39, z164_r0_39, g164_r0_39, rfl, O164_r0_2, f164_r0_2, O164_r0_4, f164_r0_4, O164_r0_39, f164_r0_39, d164_0, d164_1, d164_2, G164⟩
     have z545 := G164.size
     have lt546 := O164_r0_2.lth
     have lt547 := O164_r0_4.lth
     have lt548 := O164_r0_39.lth
     refine kG G164 ?_
     have S549 := ((((((Kp.refl ([]) w102).gr G155).gr G161).gr G162).ka Aw163 (tk1 ((.inr tk0) : 1 = 0 ∨ w102.heap.size ≤ gw161))).gr G164)
     refine dn 0 rfl rfl S549<|dn 0 rfl rfl S549<|dn 0 rfl rfl S549 ?_
     have B550 := ((((Bw155.gr G161).gr G162).ka Aw163 (tk1 ((.inr tk0) : 1 = 0 ∨ gw161 ≠ b155))).gr G164)
     refine qz [(1, b155)] rfl (ev_stW agg_52 rfl rfl (TPacket.cs_ones _ _ _ _ (Own.oneB O164_r0_2) (Own.oneB O164_r0_4) (Own.oneB O164_r0_39)) B550 rfl rfl) ⟨fun _ => tk0, trivial⟩ ?_
     rintro _ w165 ⟨Bw165, M165⟩
     have z551 := M165.size
     refine kM M165 ?_
     have S552 := (S549.md M165)
     refine dn 0 rfl rfl S552<|sd_nil ?_
     have K_553 : Kz [] w14 w165 := (((((((Kz.gr (Kz.refl _ _) G102).gr G155).gr G161).gr G162).ka Aw163 (tk1 ((.inr tk0) : 1 = 0 ∨ w14.heap.size ≤ gw161))).gr G164).md M165)
     have B554 := (O164_r0_2.md M165 (pb_0 f164_r0_2))
     have B555 := (O164_r0_4.md M165 (pb_0 f164_r0_4))
     have B556 := (O164_r0_39.md M165 (pb_0 f164_r0_39))
     exact ⟨rfl, ⟨x103.2, x103.1, b155, u164_r0_2, z164_r0_2, g164_r0_2, u164_r0_4, z164_r0_4, g164_r0_4, u164_r0_39, z164_r0_39, g164_r0_39⟩, sbq, hm, B554, ⟨(pv_0 (A := (fun x => w14.heap.size ≤ x)) f164_r0_2)⟩, B555, ⟨(pv_0 (A := (fun x => w14.heap.size ≤ x)) f164_r0_4)⟩, B556, ⟨(pv_0 (A := (fun x => w14.heap.size ≤ x)) f164_r0_39)⟩, Bw165, (by omega), ⟨(tk1 d164_0.o)⟩, ⟨(tk1 d164_1.o)⟩, ⟨(tk1 d164_2.o)⟩, ⟨(pv_0 (A := (fun x => x ≠ b155)) f164_r0_2)⟩, ⟨(pv_0 (A := (fun x => x ≠ b155)) f164_r0_4)⟩, ⟨(pv_0 (A := (fun x => x ≠ b155)) f164_r0_39)⟩, K_553⟩
   refine sdz_leaf<|qz [(1, gw161)] rfl (ev_cvB Tryz.underlying50 Tryz.underlying5 rfl Ow161) ⟨fun _ => (tk1 ((.inr tk0) : 1 = 0 ∨ w102.heap.size ≤ gw161)), trivial⟩ ?_
   rintro vw166 w166 ⟨Rw166, Aw166⟩
   have z557 := Aw166.size
   have lt558 := Rw166.lth
   refine ⟨Kz.ofKa Aw166, ?_⟩
   obtain ⟨x104, hx104, hm⟩ := bnd hm
   refine qz [] rfl (eC en_55 rfl (law05_hour_w hx104)) ⟨fun _ => tk0, trivial⟩ ?_
   rintro _ w167 ⟨rfl, G167⟩
   have z559 := G167.size
   refine kG G167 ?_
   have B560 := (Rw166.gr G167)
   obtain ⟨x105, hx105, hm⟩ := bnd hm
   refine qz [] rfl (eC en_31 rfl (epoch_Content_w hx105 B560)) ⟨fun _ => tk0, trivial⟩ ?_
   rintro _ w168 ⟨u168_r0_2, z168_r0_2, g168_r0_2, u168_r0_4, z168_r0_4, g168_r0_4, u168_r0_39, z168_r0_39, g168_r0_39, rfl, O168_r0_2, f168_r0_2, O168_r0_4, f168_r0_4, O168_r0_39, f168_r0_39, d168_0, d168_1, d168_2, G168⟩
   have z561 := G168.size
   have lt562 := O168_r0_2.lth
   have lt563 := O168_r0_4.lth
   have lt564 := O168_r0_39.lth
   refine kG G168 ?_
   have Y19 := Gr.trans G155 G161
   have S565 := (((((Kp.refl ([]) w102).gr Y19).ka Aw166 (tk1 ((.inr tk0) : 1 = 0 ∨ w102.heap.size ≤ gw161))).gr G167).gr G168)
   refine dn 0 rfl rfl S565<|dn 0 rfl rfl S565<|dn 0 rfl rfl S565 ?_
   have B566 := ((((Bw155.gr G161).ka Aw166 (tk1 ((.inr tk0) : 1 = 0 ∨ gw161 ≠ b155))).gr G167).gr G168)
   refine qz [(1, b155)] rfl (ev_stW agg_52 rfl rfl (TPacket.cs_ones _ _ _ _ (Own.oneB O168_r0_2) (Own.oneB O168_r0_4) (Own.oneB O168_r0_39)) B566 rfl rfl) ⟨fun _ => tk0, trivial⟩ ?_
   rintro _ w169 ⟨Bw169, M169⟩
   have z567 := M169.size
   refine kM M169 ?_
   have S568 := (S565.md M169)
   refine dn 0 rfl rfl S568<|sd_nil ?_
   have K_569 : Kz [] w14 w169 := ((((((Kz.gr (Kz.refl _ _) G102).gr Y19).ka Aw166 (tk1 ((.inr tk0) : 1 = 0 ∨ w14.heap.size ≤ gw161))).gr G167).gr G168).md M169)
   have B570 := (O168_r0_2.md M169 (pb_0 f168_r0_2))
   have B571 := (O168_r0_4.md M169 (pb_0 f168_r0_4))
   have B572 := (O168_r0_39.md M169 (pb_0 f168_r0_39))
   exact ⟨rfl, ⟨x105.2, x105.1, b155, u168_r0_2, z168_r0_2, g168_r0_2, u168_r0_4, z168_r0_4, g168_r0_4, u168_r0_39, z168_r0_39, g168_r0_39⟩, sbq, hm, B570, ⟨(pv_0 (A := (fun x => w14.heap.size ≤ x)) f168_r0_2)⟩, B571, ⟨(pv_0 (A := (fun x => w14.heap.size ≤ x)) f168_r0_4)⟩, B572, ⟨(pv_0 (A := (fun x => w14.heap.size ≤ x)) f168_r0_39)⟩, Bw169, (by omega), ⟨(tk1 d168_0.o)⟩, ⟨(tk1 d168_1.o)⟩, ⟨(tk1 d168_2.o)⟩, ⟨(pv_0 (A := (fun x => x ≠ b155)) f168_r0_2)⟩, ⟨(pv_0 (A := (fun x => x ≠ b155)) f168_r0_4)⟩, ⟨(pv_0 (A := (fun x => x ≠ b155)) f168_r0_39)⟩, K_569⟩
 clear hm; rintro ⟨a18, a20, bq19, vy21, zy21, gy21, vy22, zy22, gy22, vy23, zy23, gy23⟩ w15 ⟨hm, Fw15_0, Fw15_1, Fw15_2, Fw15_3, Fw15_4, Fw15_5, Fw15_6, Fw15_7, Fw15_8, Fw15_9, Fw15_10, Fw15_11, Fw15_12, Fw15_13, K15⟩
 have z25 := K15.size
 have lt26 := Fw15_0.lth
 have lt27 := Fw15_2.lth
 have lt28 := Fw15_4.lth
 have lt29 := Fw15_6.lt
 unfold law05_alive_J3 at hm
 have X30 := (X24.kz K15)
 refine qj (β := Int × TReceiver × Nat × Value × Nat × Nat) ([6, 14] ++ rg 101 7) (fun ⟨a24, a26, bq25, vy27, zy27, gy27⟩ => [(6, .int .i64 a24), (14, .pointer (some ⟨bq25, 0, none⟩))]) (fun ⟨a24, a26, bq25, vy27, zy27, gy27⟩ wr => (law05_alive_J4 a12 a14 a18 a20 a24 a26 = some r) ∧ Own wr zy27 gy27 92 18 vy27 (a26.Secret.Labels.map TLabel.cs) ∧ Hdn (zy27 = 0 ∨ w15.heap.size ≤ gy27) ∧ Bx wr bq25 78 (TReceiver.cs a26 vy27) ∧ w15.heap.size ≤ bq25 ∧ Hdn (zy27 = 0 ∨ gy27 ≠ bq25) ∧ Kz [] w15 wr) ?_ ?_
 · refine dw [([])] [] (.fork [(0,10)] (.fork [(1,0)] (.fork [(2,0)] (.leaf [(3,0),(4,10),(5,10),(6,10),(7,0),(8,0),(9,10)]) (.leaf [(7,0),(3,0),(4,10),(5,10),(6,10),(8,0),(9,10)])) (.leaf [(7,0),(2,0),(3,0),(4,10),(5,10),(6,10),(8,0),(9,10)])) (.leaf [(7,0),(1,0),(2,0),(3,0),(4,10),(5,10),(6,10),(8,0),(9,10)])) ?_
   intro w84 G84 zw84
   refine sdz_fork ?_
   have B262 := (((Bw13.kz K14).kz K15).gr G84)
   refine dh 0 rfl rfl (fun w hS => vv_loadW agg_23 rfl (Bx.kp B262 hS) rfl)<|sd_fork ?_ ?_
   · refine sdz_fork ?_
     obtain ⟨x73, hx73, hm⟩ := bnd hm
     refine qz [] rfl (eC en_59 rfl (law05_four_w hx73)) ⟨fun _ => tk0, trivial⟩ ?_
     rintro _ w85 ⟨rfl, G85⟩
     have z263 := G85.size
     refine kG G85<|sd_fork ?_ ?_
     · refine sdz_fork ?_
       obtain ⟨x74, hx74, hm⟩ := bnd hm
       refine qz [] rfl (eC en_55 rfl (law05_hour_w hx74)) ⟨fun _ => tk0, trivial⟩ ?_
       rintro _ w86 ⟨rfl, G86⟩
       have z264 := G86.size
       refine kG G86<|sd_fork ?_ ?_
       · refine sdz_leaf ?_
         obtain ⟨x75, hx75, hm⟩ := bnd hm
         refine qz [] rfl (eC en_35 rfl (epoch_New_w hx75)) ⟨fun _ => tk0, trivial⟩ ?_
         rintro _ w87 ⟨u87_r0_1, z87_r0_1, g87_r0_1, rfl, O87_r0_1, f87_r0_1, G87⟩
         have z265 := G87.size
         have lt266 := O87_r0_1.lth
         refine kG G87 ?_
         have S267 := ((((Kp.refl ([]) w84).gr G85).gr G86).gr G87)
         refine dn 0 rfl rfl S267<|dn 0 rfl rfl S267<|dn 0 rfl rfl S267<|qz [] rfl (ev_alloc (cs := TReceiver.cs (TReceiver.mk (TSecret.mk 0 [] (TPoint.mk 0#64 0#64)) 0 (TA2_Slot.mk (TSlot.mk false 0 k0) (TSlot.mk false 0 k0))) (.slice none 0 0)) zv_78 rfl) ⟨fun _ => tk0, trivial⟩ ?_
         rintro _ w88 ⟨b88, rfl, hbw88, Bw88, G88⟩
         have z268 := G88.size
         have lt269 := Bw88.lt
         refine kG G88 ?_
         have B270 := (O87_r0_1.gr G88)
         refine qz [(1, b88)] rfl (ev_stW agg_78 rfl rfl (TReceiver.cs_ones _ _ (Own.oneB B270)) Bw88 rfl rfl) ⟨fun _ => tk0, trivial⟩ ?_
         rintro _ w89 ⟨Bw89, M89⟩
         have z271 := M89.size
         refine kM M89 ?_
         have S272 := ((S267.gr G88).md M89)
         refine dn 0 rfl rfl S272<|sd_nil ?_
         have K_273 : Kz [] w15 w89 := ((((((Kz.gr (Kz.refl _ _) G84).gr G85).gr G86).gr G87).gr G88).md M89)
         have B274 := (B270.md M89 (pb_lt lt266))
         exact ⟨rfl, ⟨x75.2, x75.1, b88, u87_r0_1, z87_r0_1, g87_r0_1⟩, sbq, hm, B274, ⟨(pv_0 (A := (fun x => w15.heap.size ≤ x)) f87_r0_1)⟩, Bw89, (by omega), ⟨(pv_lt (A := (fun x => x ≠ b88)) lt266)⟩, K_273⟩
       refine sdz_leaf<|qz [] rfl (ev_alloc (cs := TReceiver.cs (TReceiver.mk (TSecret.mk 0 [] (TPoint.mk 0#64 0#64)) 0 (TA2_Slot.mk (TSlot.mk false 0 k0) (TSlot.mk false 0 k0))) (.slice none 0 0)) zv_78 rfl) ⟨fun _ => tk0, trivial⟩ ?_
       rintro _ w90 ⟨b90, rfl, hbw90, Bw90, G90⟩
       have z275 := G90.size
       have lt276 := Bw90.lt
       refine kG G90 ?_
       obtain ⟨x76, hx76, hm⟩ := bnd hm
       refine qz [] rfl (eC en_35 rfl (epoch_New_w hx76)) ⟨fun _ => tk0, trivial⟩ ?_
       rintro _ w91 ⟨u91_r0_1, z91_r0_1, g91_r0_1, rfl, O91_r0_1, f91_r0_1, G91⟩
       have z277 := G91.size
       have lt278 := O91_r0_1.lth
       refine kG G91 ?_
       have Y20 := Gr.trans (Gr.trans (Gr.trans G85 G86) G90) G91
       have S279 := ((Kp.refl ([]) w84).gr Y20)
       refine dn 0 rfl rfl S279<|dn 0 rfl rfl S279<|dn 0 rfl rfl S279 ?_
       have B280 := (Bw90.gr G91)
       refine qz [(1, b90)] rfl (ev_stW agg_78 rfl rfl (TReceiver.cs_ones _ _ (Own.oneB O91_r0_1)) B280 rfl rfl) ⟨fun _ => tk0, trivial⟩ ?_
       rintro _ w92 ⟨Bw92, M92⟩
       have z281 := M92.size
       refine kM M92 ?_
       have S282 := (S279.md M92)
       refine dn 0 rfl rfl S282<|sd_nil ?_
       have K_283 : Kz [] w15 w92 := (((Kz.gr (Kz.refl _ _) G84).gr Y20).md M92)
       have B284 := (O91_r0_1.md M92 (pb_0 f91_r0_1))
       exact ⟨rfl, ⟨x76.2, x76.1, b90, u91_r0_1, z91_r0_1, g91_r0_1⟩, sbq, hm, B284, ⟨(pv_0 (A := (fun x => w15.heap.size ≤ x)) f91_r0_1)⟩, Bw92, (by omega), ⟨(pv_0 (A := (fun x => x ≠ b90)) f91_r0_1)⟩, K_283⟩
     refine sdz_leaf<|qz [] rfl (ev_alloc (cs := TReceiver.cs (TReceiver.mk (TSecret.mk 0 [] (TPoint.mk 0#64 0#64)) 0 (TA2_Slot.mk (TSlot.mk false 0 k0) (TSlot.mk false 0 k0))) (.slice none 0 0)) zv_78 rfl) ⟨fun _ => tk0, trivial⟩ ?_
     rintro _ w93 ⟨b93, rfl, hbw93, Bw93, G93⟩
     have z285 := G93.size
     have lt286 := Bw93.lt
     refine kG G93 ?_
     obtain ⟨x77, hx77, hm⟩ := bnd hm
     refine qz [] rfl (eC en_55 rfl (law05_hour_w hx77)) ⟨fun _ => tk0, trivial⟩ ?_
     rintro _ w94 ⟨rfl, G94⟩
     have z287 := G94.size
     refine kG G94 ?_
     obtain ⟨x78, hx78, hm⟩ := bnd hm
     refine qz [] rfl (eC en_35 rfl (epoch_New_w hx78)) ⟨fun _ => tk0, trivial⟩ ?_
     rintro _ w95 ⟨u95_r0_1, z95_r0_1, g95_r0_1, rfl, O95_r0_1, f95_r0_1, G95⟩
     have z288 := G95.size
     have lt289 := O95_r0_1.lth
     refine kG G95 ?_
     have Y21 := Gr.trans (Gr.trans (Gr.trans G85 G93) G94) G95
     have S290 := ((Kp.refl ([]) w84).gr Y21)
     refine dn 0 rfl rfl S290<|dn 0 rfl rfl S290<|dn 0 rfl rfl S290 ?_
     have B291 := ((Bw93.gr G94).gr G95)
     refine qz [(1, b93)] rfl (ev_stW agg_78 rfl rfl (TReceiver.cs_ones _ _ (Own.oneB O95_r0_1)) B291 rfl rfl) ⟨fun _ => tk0, trivial⟩ ?_
     rintro _ w96 ⟨Bw96, M96⟩
     have z292 := M96.size
     refine kM M96 ?_
     have S293 := (S290.md M96)
     refine dn 0 rfl rfl S293<|sd_nil ?_
     have K_294 : Kz [] w15 w96 := (((Kz.gr (Kz.refl _ _) G84).gr Y21).md M96)
     have B295 := (O95_r0_1.md M96 (pb_0 f95_r0_1))
     exact ⟨rfl, ⟨x78.2, x78.1, b93, u95_r0_1, z95_r0_1, g95_r0_1⟩, sbq, hm, B295, ⟨(pv_0 (A := (fun x => w15.heap.size ≤ x)) f95_r0_1)⟩, Bw96, (by omega), ⟨(pv_0 (A := (fun x => x ≠ b93)) f95_r0_1)⟩, K_294⟩
   refine sdz_leaf<|qz [] rfl (ev_alloc (cs := TReceiver.cs (TReceiver.mk (TSecret.mk 0 [] (TPoint.mk 0#64 0#64)) 0 (TA2_Slot.mk (TSlot.mk false 0 k0) (TSlot.mk false 0 k0))) (.slice none 0 0)) zv_78 rfl) ⟨fun _ => tk0, trivial⟩ ?_
   rintro _ w97 ⟨b97, rfl, hbw97, Bw97, G97⟩
   have z296 := G97.size
   have lt297 := Bw97.lt
   refine kG G97 ?_
   obtain ⟨x79, hx79, hm⟩ := bnd hm
   refine qz [] rfl (eC en_59 rfl (law05_four_w hx79)) ⟨fun _ => tk0, trivial⟩ ?_
   rintro _ w98 ⟨rfl, G98⟩
   have z298 := G98.size
   refine kG G98 ?_
   obtain ⟨x80, hx80, hm⟩ := bnd hm
   refine qz [] rfl (eC en_55 rfl (law05_hour_w hx80)) ⟨fun _ => tk0, trivial⟩ ?_
   rintro _ w99 ⟨rfl, G99⟩
   have z299 := G99.size
   refine kG G99 ?_
   obtain ⟨x81, hx81, hm⟩ := bnd hm
   refine qz [] rfl (eC en_35 rfl (epoch_New_w hx81)) ⟨fun _ => tk0, trivial⟩ ?_
   rintro _ w100 ⟨u100_r0_1, z100_r0_1, g100_r0_1, rfl, O100_r0_1, f100_r0_1, G100⟩
   have z300 := G100.size
   have lt301 := O100_r0_1.lth
   refine kG G100 ?_
   have Y22 := Gr.trans (Gr.trans (Gr.trans G97 G98) G99) G100
   have S302 := ((Kp.refl ([]) w84).gr Y22)
   refine dn 0 rfl rfl S302<|dn 0 rfl rfl S302<|dn 0 rfl rfl S302 ?_
   have Y23 := Gr.trans (Gr.trans G98 G99) G100
   have B303 := (Bw97.gr Y23)
   refine qz [(1, b97)] rfl (ev_stW agg_78 rfl rfl (TReceiver.cs_ones _ _ (Own.oneB O100_r0_1)) B303 rfl rfl) ⟨fun _ => tk0, trivial⟩ ?_
   rintro _ w101 ⟨Bw101, M101⟩
   have z304 := M101.size
   refine kM M101 ?_
   have S305 := (S302.md M101)
   refine dn 0 rfl rfl S305<|sd_nil ?_
   have K_306 : Kz [] w15 w101 := (((Kz.gr (Kz.refl _ _) G84).gr Y22).md M101)
   have B307 := (O100_r0_1.md M101 (pb_0 f100_r0_1))
   exact ⟨rfl, ⟨x81.2, x81.1, b97, u100_r0_1, z100_r0_1, g100_r0_1⟩, sbq, hm, B307, ⟨(pv_0 (A := (fun x => w15.heap.size ≤ x)) f100_r0_1)⟩, Bw101, (by omega), ⟨(pv_0 (A := (fun x => x ≠ b97)) f100_r0_1)⟩, K_306⟩
 clear hm; rintro ⟨a24, a26, bq25, vy27, zy27, gy27⟩ w16 ⟨hm, Fw16_0, Fw16_1, Fw16_2, Fw16_3, Fw16_4, K16⟩
 have z31 := K16.size
 have lt32 := Fw16_0.lth
 have lt33 := Fw16_2.lt
 unfold law05_alive_J4 at hm
 have X34 := (X30.kz K16)
 refine qj (β := Int × TReceiver × Nat × Value × Nat × Nat) ([8, 15] ++ rg 108 7) (fun ⟨a28, a30, bq29, vy31, zy31, gy31⟩ => [(8, .int .i64 a28), (15, .pointer (some ⟨bq29, 0, none⟩))]) (fun ⟨a28, a30, bq29, vy31, zy31, gy31⟩ wr => (law05_alive_J5 a12 a14 a18 a20 a24 a26 a28 a30 = some r) ∧ Own wr zy31 gy31 92 18 vy31 (a30.Secret.Labels.map TLabel.cs) ∧ Hdn (zy31 = 0 ∨ w16.heap.size ≤ gy31) ∧ Bx wr bq29 78 (TReceiver.cs a30 vy31) ∧ w16.heap.size ≤ bq29 ∧ Hdn (zy31 = 0 ∨ gy31 ≠ bq29) ∧ Kz [] w16 wr) ?_ ?_
 · refine dw [([])] [] (.fork [(0,10)] (.fork [(1,0)] (.fork [(2,0)] (.leaf [(3,0),(4,10),(5,10),(6,10),(7,0),(8,0),(9,10)]) (.leaf [(7,0),(3,0),(4,10),(5,10),(6,10),(8,0),(9,10)])) (.leaf [(7,0),(2,0),(3,0),(4,10),(5,10),(6,10),(8,0),(9,10)])) (.leaf [(7,0),(1,0),(2,0),(3,0),(4,10),(5,10),(6,10),(8,0),(9,10)])) ?_
   intro w66 G66 zw66
   refine sdz_fork ?_
   have B216 := ((((Bw13.kz K14).kz K15).kz K16).gr G66)
   refine dh 0 rfl rfl (fun w hS => vv_loadW agg_23 rfl (Bx.kp B216 hS) rfl)<|sd_fork ?_ ?_
   · refine sdz_fork ?_
     obtain ⟨x64, hx64, hm⟩ := bnd hm
     refine qz [] rfl (eC en_59 rfl (law05_four_w hx64)) ⟨fun _ => tk0, trivial⟩ ?_
     rintro _ w67 ⟨rfl, G67⟩
     have z217 := G67.size
     refine kG G67<|sd_fork ?_ ?_
     · refine sdz_fork ?_
       obtain ⟨x65, hx65, hm⟩ := bnd hm
       refine qz [] rfl (eC en_55 rfl (law05_hour_w hx65)) ⟨fun _ => tk0, trivial⟩ ?_
       rintro _ w68 ⟨rfl, G68⟩
       have z218 := G68.size
       refine kG G68<|sd_fork ?_ ?_
       · refine sdz_leaf ?_
         obtain ⟨x66, hx66, hm⟩ := bnd hm
         refine qz [] rfl (eC en_35 rfl (epoch_New_w hx66)) ⟨fun _ => tk0, trivial⟩ ?_
         rintro _ w69 ⟨u69_r0_1, z69_r0_1, g69_r0_1, rfl, O69_r0_1, f69_r0_1, G69⟩
         have z219 := G69.size
         have lt220 := O69_r0_1.lth
         refine kG G69 ?_
         have S221 := ((((Kp.refl ([]) w66).gr G67).gr G68).gr G69)
         refine dn 0 rfl rfl S221<|dn 0 rfl rfl S221<|dn 0 rfl rfl S221<|qz [] rfl (ev_alloc (cs := TReceiver.cs (TReceiver.mk (TSecret.mk 0 [] (TPoint.mk 0#64 0#64)) 0 (TA2_Slot.mk (TSlot.mk false 0 k0) (TSlot.mk false 0 k0))) (.slice none 0 0)) zv_78 rfl) ⟨fun _ => tk0, trivial⟩ ?_
         rintro _ w70 ⟨b70, rfl, hbw70, Bw70, G70⟩
         have z222 := G70.size
         have lt223 := Bw70.lt
         refine kG G70 ?_
         have B224 := (O69_r0_1.gr G70)
         refine qz [(1, b70)] rfl (ev_stW agg_78 rfl rfl (TReceiver.cs_ones _ _ (Own.oneB B224)) Bw70 rfl rfl) ⟨fun _ => tk0, trivial⟩ ?_
         rintro _ w71 ⟨Bw71, M71⟩
         have z225 := M71.size
         refine kM M71 ?_
         have S226 := ((S221.gr G70).md M71)
         refine dn 0 rfl rfl S226<|sd_nil ?_
         have K_227 : Kz [] w16 w71 := ((((((Kz.gr (Kz.refl _ _) G66).gr G67).gr G68).gr G69).gr G70).md M71)
         have B228 := (B224.md M71 (pb_lt lt220))
         exact ⟨rfl, ⟨x66.2, x66.1, b70, u69_r0_1, z69_r0_1, g69_r0_1⟩, sbq, hm, B228, ⟨(pv_0 (A := (fun x => w16.heap.size ≤ x)) f69_r0_1)⟩, Bw71, (by omega), ⟨(pv_lt (A := (fun x => x ≠ b70)) lt220)⟩, K_227⟩
       refine sdz_leaf<|qz [] rfl (ev_alloc (cs := TReceiver.cs (TReceiver.mk (TSecret.mk 0 [] (TPoint.mk 0#64 0#64)) 0 (TA2_Slot.mk (TSlot.mk false 0 k0) (TSlot.mk false 0 k0))) (.slice none 0 0)) zv_78 rfl) ⟨fun _ => tk0, trivial⟩ ?_
       rintro _ w72 ⟨b72, rfl, hbw72, Bw72, G72⟩
       have z229 := G72.size
       have lt230 := Bw72.lt
       refine kG G72 ?_
       obtain ⟨x67, hx67, hm⟩ := bnd hm
       refine qz [] rfl (eC en_35 rfl (epoch_New_w hx67)) ⟨fun _ => tk0, trivial⟩ ?_
       rintro _ w73 ⟨u73_r0_1, z73_r0_1, g73_r0_1, rfl, O73_r0_1, f73_r0_1, G73⟩
       have z231 := G73.size
       have lt232 := O73_r0_1.lth
       refine kG G73 ?_
       have Y24 := Gr.trans (Gr.trans (Gr.trans G67 G68) G72) G73
       have S233 := ((Kp.refl ([]) w66).gr Y24)
       refine dn 0 rfl rfl S233<|dn 0 rfl rfl S233<|dn 0 rfl rfl S233 ?_
       have B234 := (Bw72.gr G73)
       refine qz [(1, b72)] rfl (ev_stW agg_78 rfl rfl (TReceiver.cs_ones _ _ (Own.oneB O73_r0_1)) B234 rfl rfl) ⟨fun _ => tk0, trivial⟩ ?_
       rintro _ w74 ⟨Bw74, M74⟩
       have z235 := M74.size
       refine kM M74 ?_
       have S236 := (S233.md M74)
       refine dn 0 rfl rfl S236<|sd_nil ?_
       have K_237 : Kz [] w16 w74 := (((Kz.gr (Kz.refl _ _) G66).gr Y24).md M74)
       have B238 := (O73_r0_1.md M74 (pb_0 f73_r0_1))
       exact ⟨rfl, ⟨x67.2, x67.1, b72, u73_r0_1, z73_r0_1, g73_r0_1⟩, sbq, hm, B238, ⟨(pv_0 (A := (fun x => w16.heap.size ≤ x)) f73_r0_1)⟩, Bw74, (by omega), ⟨(pv_0 (A := (fun x => x ≠ b72)) f73_r0_1)⟩, K_237⟩
     refine sdz_leaf<|qz [] rfl (ev_alloc (cs := TReceiver.cs (TReceiver.mk (TSecret.mk 0 [] (TPoint.mk 0#64 0#64)) 0 (TA2_Slot.mk (TSlot.mk false 0 k0) (TSlot.mk false 0 k0))) (.slice none 0 0)) zv_78 rfl) ⟨fun _ => tk0, trivial⟩ ?_
     rintro _ w75 ⟨b75, rfl, hbw75, Bw75, G75⟩
     have z239 := G75.size
     have lt240 := Bw75.lt
     refine kG G75 ?_
     obtain ⟨x68, hx68, hm⟩ := bnd hm
     refine qz [] rfl (eC en_55 rfl (law05_hour_w hx68)) ⟨fun _ => tk0, trivial⟩ ?_
     rintro _ w76 ⟨rfl, G76⟩
     have z241 := G76.size
     refine kG G76 ?_
     obtain ⟨x69, hx69, hm⟩ := bnd hm
     refine qz [] rfl (eC en_35 rfl (epoch_New_w hx69)) ⟨fun _ => tk0, trivial⟩ ?_
     rintro _ w77 ⟨u77_r0_1, z77_r0_1, g77_r0_1, rfl, O77_r0_1, f77_r0_1, G77⟩
     have z242 := G77.size
     have lt243 := O77_r0_1.lth
     refine kG G77 ?_
     have Y25 := Gr.trans (Gr.trans (Gr.trans G67 G75) G76) G77
     have S244 := ((Kp.refl ([]) w66).gr Y25)
     refine dn 0 rfl rfl S244<|dn 0 rfl rfl S244<|dn 0 rfl rfl S244 ?_
     have B245 := ((Bw75.gr G76).gr G77)
     refine qz [(1, b75)] rfl (ev_stW agg_78 rfl rfl (TReceiver.cs_ones _ _ (Own.oneB O77_r0_1)) B245 rfl rfl) ⟨fun _ => tk0, trivial⟩ ?_
     rintro _ w78 ⟨Bw78, M78⟩
     have z246 := M78.size
     refine kM M78 ?_
     have S247 := (S244.md M78)
     refine dn 0 rfl rfl S247<|sd_nil ?_
     have K_248 : Kz [] w16 w78 := (((Kz.gr (Kz.refl _ _) G66).gr Y25).md M78)
     have B249 := (O77_r0_1.md M78 (pb_0 f77_r0_1))
     exact ⟨rfl, ⟨x69.2, x69.1, b75, u77_r0_1, z77_r0_1, g77_r0_1⟩, sbq, hm, B249, ⟨(pv_0 (A := (fun x => w16.heap.size ≤ x)) f77_r0_1)⟩, Bw78, (by omega), ⟨(pv_0 (A := (fun x => x ≠ b75)) f77_r0_1)⟩, K_248⟩
   refine sdz_leaf<|qz [] rfl (ev_alloc (cs := TReceiver.cs (TReceiver.mk (TSecret.mk 0 [] (TPoint.mk 0#64 0#64)) 0 (TA2_Slot.mk (TSlot.mk false 0 k0) (TSlot.mk false 0 k0))) (.slice none 0 0)) zv_78 rfl) ⟨fun _ => tk0, trivial⟩ ?_
   rintro _ w79 ⟨b79, rfl, hbw79, Bw79, G79⟩
   have z250 := G79.size
   have lt251 := Bw79.lt
   refine kG G79 ?_
   obtain ⟨x70, hx70, hm⟩ := bnd hm
   refine qz [] rfl (eC en_59 rfl (law05_four_w hx70)) ⟨fun _ => tk0, trivial⟩ ?_
   rintro _ w80 ⟨rfl, G80⟩
   have z252 := G80.size
   refine kG G80 ?_
   obtain ⟨x71, hx71, hm⟩ := bnd hm
   refine qz [] rfl (eC en_55 rfl (law05_hour_w hx71)) ⟨fun _ => tk0, trivial⟩ ?_
   rintro _ w81 ⟨rfl, G81⟩
   have z253 := G81.size
   refine kG G81 ?_
   obtain ⟨x72, hx72, hm⟩ := bnd hm
   refine qz [] rfl (eC en_35 rfl (epoch_New_w hx72)) ⟨fun _ => tk0, trivial⟩ ?_
   rintro _ w82 ⟨u82_r0_1, z82_r0_1, g82_r0_1, rfl, O82_r0_1, f82_r0_1, G82⟩
   have z254 := G82.size
   have lt255 := O82_r0_1.lth
   refine kG G82 ?_
   have Y26 := Gr.trans (Gr.trans (Gr.trans G79 G80) G81) G82
   have S256 := ((Kp.refl ([]) w66).gr Y26)
   refine dn 0 rfl rfl S256<|dn 0 rfl rfl S256<|dn 0 rfl rfl S256 ?_
   have Y27 := Gr.trans (Gr.trans G80 G81) G82
   have B257 := (Bw79.gr Y27)
   refine qz [(1, b79)] rfl (ev_stW agg_78 rfl rfl (TReceiver.cs_ones _ _ (Own.oneB O82_r0_1)) B257 rfl rfl) ⟨fun _ => tk0, trivial⟩ ?_
   rintro _ w83 ⟨Bw83, M83⟩
   have z258 := M83.size
   refine kM M83 ?_
   have S259 := (S256.md M83)
   refine dn 0 rfl rfl S259<|sd_nil ?_
   have K_260 : Kz [] w16 w83 := (((Kz.gr (Kz.refl _ _) G66).gr Y26).md M83)
   have B261 := (O82_r0_1.md M83 (pb_0 f82_r0_1))
   exact ⟨rfl, ⟨x72.2, x72.1, b79, u82_r0_1, z82_r0_1, g82_r0_1⟩, sbq, hm, B261, ⟨(pv_0 (A := (fun x => w16.heap.size ≤ x)) f82_r0_1)⟩, Bw83, (by omega), ⟨(pv_0 (A := (fun x => x ≠ b79)) f82_r0_1)⟩, K_260⟩
 clear hm; rintro ⟨a28, a30, bq29, vy31, zy31, gy31⟩ w17 ⟨hm, Fw17_0, Fw17_1, Fw17_2, Fw17_3, Fw17_4, K17⟩
 have z35 := K17.size
 have lt36 := Fw17_0.lth
 have lt37 := Fw17_2.lt
 unfold law05_alive_J5 at hm
 refine sw_seq ?_
 have X38 := (X34.kz K17)
 refine qj (β := Bool) (rg 115 14) (fun a32 => [(128, .bool a32)]) (fun a32 wr => (law05_alive_J6 a14 a20 a26 a30 a32 = some r) ∧ Kz [] w17 wr) ?_ ?_
 · refine qg 14 rfl<|qm rfl<|qv rfl (vv_neq (a := a12) (b := 0) rfl rfl)<|qp rfl (vv_move rfl) (fun c7 => ?_) (fun c7 => ?_)
   · replace hm := iT c7 hm
     refine qk rfl<|qk rfl<|qm rfl<|qm rfl<|qk rfl<|qk rfl<|qm rfl ?_
     refine qm rfl<|qk rfl<|qk rfl<|qm rfl<|sd_nil ?_
     exact ⟨rfl, true, sbq, hm, kz0⟩
   replace hm := iF c7 hm
   refine qm rfl<|qv rfl (vv_neq (a := a18) (b := 0) rfl rfl)<|qm rfl<|qp rfl (vv_move rfl) (fun c8 => ?_) (fun c8 => ?_)
   · replace hm := iT c8 hm
     refine qk rfl<|qk rfl<|qm rfl<|qm rfl<|qk rfl<|qk rfl<|qm rfl ?_
     refine sd_nil ?_
     exact ⟨rfl, true, sbq, hm, kz0⟩
   replace hm := iF c8 hm
   refine qm rfl<|qv rfl (vv_neq (a := a24) (b := 0) rfl rfl)<|qm rfl<|qp rfl (vv_move rfl) (fun c9 => ?_) (fun c9 => ?_)
   · replace hm := iT c9 hm
     refine qk rfl<|qk rfl<|qm rfl<|sd_nil ?_
     exact ⟨rfl, true, sbq, hm, kz0⟩
   replace hm := iF c9 hm
   refine qm rfl<|qv rfl (vv_neq (a := a28) (b := 0) rfl rfl)<|qm rfl<|sd_nil ?_
   exact ⟨rfl, (decide (a28 ≠ 0)), sbq, hm, kz0⟩
 clear hm; rintro a32 w18 ⟨hm, K18⟩
 have z39 := K18.size
 unfold law05_alive_J6 at hm
 refine sw_cond rfl (fun c2 => ?_) (fun c2 => ?_)
 · replace hm := cnd_t c2 hm
   refine qs 1 rfl<|qm rfl<|qb ?_
   have X40 := (X38.kz K18)
   cases hm
   refine ⟨_, _, rfl, res_1 rfl (rv_tmp rfl), ?_⟩
   exact ⟨rfl, X40⟩
 replace hm := cnd_f c2 hm
 refine qu ?_
 have X41 := (X38.kz K18)
 refine qj (β := Int × TReceiver × Nat × Value × Nat × Nat) ([2, 16, 17] ++ rg 129 9) (fun ⟨a33, a35, bq34, vy36, zy36, gy36⟩ => [(2, .int .i64 a33), (16, .pointer (some ⟨bq34, 0, none⟩))]) (fun ⟨a33, a35, bq34, vy36, zy36, gy36⟩ wr => (law05_alive_J7 a14 a20 a30 a33 a35 = some r) ∧ Own wr zy36 gy36 92 18 vy36 (a35.Secret.Labels.map TLabel.cs) ∧ Hdn (zy36 = 0 ∨ w18.heap.size ≤ gy36) ∧ Bx wr bq34 78 (TReceiver.cs a35 vy36) ∧ w18.heap.size ≤ bq34 ∧ Hdn (zy36 = 0 ∨ gy36 ≠ bq34) ∧ Kz [] w18 wr) ?_ ?_
 · refine dw [([])] [] (.fork [(2,10),(3,10)] (.fork [(0,0)] (.fork [(1,0)] (.leaf [(4,0),(5,10),(6,10),(7,10),(8,10),(9,0),(10,0),(11,10),(12,10)]) (.leaf [(9,0),(4,0),(5,10),(6,10),(7,10),(8,10),(10,0),(11,10),(12,10)])) (.leaf [(9,0),(1,0),(4,0),(5,10),(6,10),(7,10),(8,10),(10,0),(11,10),(12,10)])) (.leaf [(9,0),(0,0),(1,0),(4,0),(5,10),(6,10),(7,10),(8,10),(10,0),(11,10),(12,10)])) ?_
   intro w47 G47 zw47
   refine sdz_fork ?_
   have B145 := (((Fw16_2.kz K17).kz K18).gr G47)
   refine dh 0 rfl rfl (fun w hS => vv_loadW agg_78 rfl (Bx.kp B145 hS) rfl) ?_
   have B146 := (((((Fw14_6.kz K15).kz K16).kz K17).kz K18).gr G47)
   refine dh 0 rfl rfl (fun w hS => vv_loadW agg_52 rfl (Bx.kp B146 hS) rfl)<|sd_fork ?_ ?_
   · refine sdz_fork ?_
     obtain ⟨x55, hx55, hm⟩ := bnd hm
     refine qz [] rfl (eC en_59 rfl (law05_four_w hx55)) ⟨fun _ => tk0, trivial⟩ ?_
     rintro _ w48 ⟨rfl, G48⟩
     have z147 := G48.size
     refine kG G48<|sd_fork ?_ ?_
     · refine sdz_fork ?_
       obtain ⟨x56, hx56, hm⟩ := bnd hm
       refine qz [] rfl (eC en_55 rfl (law05_hour_w hx56)) ⟨fun _ => tk0, trivial⟩ ?_
       rintro _ w49 ⟨rfl, G49⟩
       have z148 := G49.size
       refine kG G49<|sd_fork ?_ ?_
       · refine sdz_leaf ?_
         have Y28 := Gr.trans (Gr.trans G47 G48) G49
         have B149 := (((Fw16_0.kz K17).kz K18).gr Y28)
         have B150 := (((((Fw14_0.kz K15).kz K16).kz K17).kz K18).gr Y28)
         have B151 := (((((Fw14_2.kz K15).kz K16).kz K17).kz K18).gr Y28)
         have B152 := (((((Fw14_4.kz K15).kz K16).kz K17).kz K18).gr Y28)
         obtain ⟨x57, hx57, hm⟩ := bnd hm
         refine qz [] rfl (eC en_37 rfl (epoch_Take_w hx57 (Own.rd B149) (Own.rd B150) (Own.rd B151) (Own.rd B152))) ⟨fun _ => tk0, trivial⟩ ?_
         rintro _ w50 ⟨u50_r0_1, z50_r0_1, g50_r0_1, u50_r1_s, z50_r1_s, g50_r1_s, rfl, O50_r0_1, f50_r0_1, O50_r1_s, f50_r1_s, d50_0, G50⟩
         have z153 := G50.size
         have lt154 := O50_r0_1.lth
         have lt155 := O50_r1_s.lth
         refine kG G50 ?_
         have S156 := ((((Kp.refl ([]) w47).gr G48).gr G49).gr G50)
         refine dn 0 rfl rfl S156<|dn 0 rfl rfl S156<|dn 0 rfl rfl S156<|dn 0 rfl rfl S156<|qz [] rfl (ev_alloc (cs := TReceiver.cs (TReceiver.mk (TSecret.mk 0 [] (TPoint.mk 0#64 0#64)) 0 (TA2_Slot.mk (TSlot.mk false 0 k0) (TSlot.mk false 0 k0))) (.slice none 0 0)) zv_78 rfl) ⟨fun _ => tk0, trivial⟩ ?_
         rintro _ w51 ⟨b51, rfl, hbw51, Bw51, G51⟩
         have z157 := G51.size
         have lt158 := Bw51.lt
         refine kG G51 ?_
         have B159 := (O50_r0_1.gr G51)
         refine qz [(1, b51)] rfl (ev_stW agg_78 rfl rfl (TReceiver.cs_ones _ _ (Own.oneB B159)) Bw51 rfl rfl) ⟨fun _ => tk0, trivial⟩ ?_
         rintro _ w52 ⟨Bw52, M52⟩
         have z160 := M52.size
         refine kM M52 ?_
         have S161 := ((S156.gr G51).md M52)
         refine dn 0 rfl rfl S161<|dn 0 rfl rfl S161<|sd_nil ?_
         have K_162 : Kz [] w18 w52 := ((((((Kz.gr (Kz.refl _ _) G47).gr G48).gr G49).gr G50).gr G51).md M52)
         have B163 := (B159.md M52 (pb_lt lt154))
         exact ⟨rfl, ⟨x57.2.2, x57.1, b51, u50_r0_1, z50_r0_1, g50_r0_1⟩, sbq, hm, B163, ⟨(pv_0 (A := (fun x => w18.heap.size ≤ x)) f50_r0_1)⟩, Bw52, (by omega), ⟨(pv_lt (A := (fun x => x ≠ b51)) lt154)⟩, K_162⟩
       refine sdz_leaf<|qz [] rfl (ev_alloc (cs := TReceiver.cs (TReceiver.mk (TSecret.mk 0 [] (TPoint.mk 0#64 0#64)) 0 (TA2_Slot.mk (TSlot.mk false 0 k0) (TSlot.mk false 0 k0))) (.slice none 0 0)) zv_78 rfl) ⟨fun _ => tk0, trivial⟩ ?_
       rintro _ w53 ⟨b53, rfl, hbw53, Bw53, G53⟩
       have z164 := G53.size
       have lt165 := Bw53.lt
       refine kG G53 ?_
       have Y29 := Gr.trans (Gr.trans (Gr.trans G47 G48) G49) G53
       have B166 := (((Fw16_0.kz K17).kz K18).gr Y29)
       have B167 := (((((Fw14_0.kz K15).kz K16).kz K17).kz K18).gr Y29)
       have B168 := (((((Fw14_2.kz K15).kz K16).kz K17).kz K18).gr Y29)
       have B169 := (((((Fw14_4.kz K15).kz K16).kz K17).kz K18).gr Y29)
       obtain ⟨x58, hx58, hm⟩ := bnd hm
       refine qz [] rfl (eC en_37 rfl (epoch_Take_w hx58 (Own.rd B166) (Own.rd B167) (Own.rd B168) (Own.rd B169))) ⟨fun _ => tk0, trivial⟩ ?_
       rintro _ w54 ⟨u54_r0_1, z54_r0_1, g54_r0_1, u54_r1_s, z54_r1_s, g54_r1_s, rfl, O54_r0_1, f54_r0_1, O54_r1_s, f54_r1_s, d54_0, G54⟩
       have z170 := G54.size
       have lt171 := O54_r0_1.lth
       have lt172 := O54_r1_s.lth
       refine kG G54 ?_
       have Y30 := Gr.trans (Gr.trans (Gr.trans G48 G49) G53) G54
       have S173 := ((Kp.refl ([]) w47).gr Y30)
       refine dn 0 rfl rfl S173<|dn 0 rfl rfl S173<|dn 0 rfl rfl S173<|dn 0 rfl rfl S173 ?_
       have B174 := (Bw53.gr G54)
       refine qz [(1, b53)] rfl (ev_stW agg_78 rfl rfl (TReceiver.cs_ones _ _ (Own.oneB O54_r0_1)) B174 rfl rfl) ⟨fun _ => tk0, trivial⟩ ?_
       rintro _ w55 ⟨Bw55, M55⟩
       have z175 := M55.size
       refine kM M55 ?_
       have S176 := (S173.md M55)
       refine dn 0 rfl rfl S176<|dn 0 rfl rfl S176<|sd_nil ?_
       have K_177 : Kz [] w18 w55 := (((Kz.gr (Kz.refl _ _) G47).gr Y30).md M55)
       have B178 := (O54_r0_1.md M55 (pb_0 f54_r0_1))
       exact ⟨rfl, ⟨x58.2.2, x58.1, b53, u54_r0_1, z54_r0_1, g54_r0_1⟩, sbq, hm, B178, ⟨(pv_0 (A := (fun x => w18.heap.size ≤ x)) f54_r0_1)⟩, Bw55, (by omega), ⟨(pv_0 (A := (fun x => x ≠ b53)) f54_r0_1)⟩, K_177⟩
     refine sdz_leaf<|qz [] rfl (ev_alloc (cs := TReceiver.cs (TReceiver.mk (TSecret.mk 0 [] (TPoint.mk 0#64 0#64)) 0 (TA2_Slot.mk (TSlot.mk false 0 k0) (TSlot.mk false 0 k0))) (.slice none 0 0)) zv_78 rfl) ⟨fun _ => tk0, trivial⟩ ?_
     rintro _ w56 ⟨b56, rfl, hbw56, Bw56, G56⟩
     have z179 := G56.size
     have lt180 := Bw56.lt
     refine kG G56 ?_
     obtain ⟨x59, hx59, hm⟩ := bnd hm
     refine qz [] rfl (eC en_55 rfl (law05_hour_w hx59)) ⟨fun _ => tk0, trivial⟩ ?_
     rintro _ w57 ⟨rfl, G57⟩
     have z181 := G57.size
     refine kG G57 ?_
     have Y31 := Gr.trans (Gr.trans (Gr.trans G47 G48) G56) G57
     have B182 := (((Fw16_0.kz K17).kz K18).gr Y31)
     have B183 := (((((Fw14_0.kz K15).kz K16).kz K17).kz K18).gr Y31)
     have B184 := (((((Fw14_2.kz K15).kz K16).kz K17).kz K18).gr Y31)
     have B185 := (((((Fw14_4.kz K15).kz K16).kz K17).kz K18).gr Y31)
     obtain ⟨x60, hx60, hm⟩ := bnd hm
     refine qz [] rfl (eC en_37 rfl (epoch_Take_w hx60 (Own.rd B182) (Own.rd B183) (Own.rd B184) (Own.rd B185))) ⟨fun _ => tk0, trivial⟩ ?_
     rintro _ w58 ⟨u58_r0_1, z58_r0_1, g58_r0_1, u58_r1_s, z58_r1_s, g58_r1_s, rfl, O58_r0_1, f58_r0_1, O58_r1_s, f58_r1_s, d58_0, G58⟩
     have z186 := G58.size
     have lt187 := O58_r0_1.lth
     have lt188 := O58_r1_s.lth
     refine kG G58 ?_
     have Y32 := Gr.trans (Gr.trans (Gr.trans G48 G56) G57) G58
     have S189 := ((Kp.refl ([]) w47).gr Y32)
     refine dn 0 rfl rfl S189<|dn 0 rfl rfl S189<|dn 0 rfl rfl S189<|dn 0 rfl rfl S189 ?_
     have B190 := ((Bw56.gr G57).gr G58)
     refine qz [(1, b56)] rfl (ev_stW agg_78 rfl rfl (TReceiver.cs_ones _ _ (Own.oneB O58_r0_1)) B190 rfl rfl) ⟨fun _ => tk0, trivial⟩ ?_
     rintro _ w59 ⟨Bw59, M59⟩
     have z191 := M59.size
     refine kM M59 ?_
     have S192 := (S189.md M59)
     refine dn 0 rfl rfl S192<|dn 0 rfl rfl S192<|sd_nil ?_
     have K_193 : Kz [] w18 w59 := (((Kz.gr (Kz.refl _ _) G47).gr Y32).md M59)
     have B194 := (O58_r0_1.md M59 (pb_0 f58_r0_1))
     exact ⟨rfl, ⟨x60.2.2, x60.1, b56, u58_r0_1, z58_r0_1, g58_r0_1⟩, sbq, hm, B194, ⟨(pv_0 (A := (fun x => w18.heap.size ≤ x)) f58_r0_1)⟩, Bw59, (by omega), ⟨(pv_0 (A := (fun x => x ≠ b56)) f58_r0_1)⟩, K_193⟩
   refine sdz_leaf<|qz [] rfl (ev_alloc (cs := TReceiver.cs (TReceiver.mk (TSecret.mk 0 [] (TPoint.mk 0#64 0#64)) 0 (TA2_Slot.mk (TSlot.mk false 0 k0) (TSlot.mk false 0 k0))) (.slice none 0 0)) zv_78 rfl) ⟨fun _ => tk0, trivial⟩ ?_
   rintro _ w60 ⟨b60, rfl, hbw60, Bw60, G60⟩
   have z195 := G60.size
   have lt196 := Bw60.lt
   refine kG G60 ?_
   obtain ⟨x61, hx61, hm⟩ := bnd hm
   refine qz [] rfl (eC en_59 rfl (law05_four_w hx61)) ⟨fun _ => tk0, trivial⟩ ?_
   rintro _ w61 ⟨rfl, G61⟩
   have z197 := G61.size
   refine kG G61 ?_
   obtain ⟨x62, hx62, hm⟩ := bnd hm
   refine qz [] rfl (eC en_55 rfl (law05_hour_w hx62)) ⟨fun _ => tk0, trivial⟩ ?_
   rintro _ w62 ⟨rfl, G62⟩
   have z198 := G62.size
   refine kG G62 ?_
   have Y33 := Gr.trans (Gr.trans (Gr.trans G47 G60) G61) G62
   have B199 := (((Fw16_0.kz K17).kz K18).gr Y33)
   have B200 := (((((Fw14_0.kz K15).kz K16).kz K17).kz K18).gr Y33)
   have B201 := (((((Fw14_2.kz K15).kz K16).kz K17).kz K18).gr Y33)
   have B202 := (((((Fw14_4.kz K15).kz K16).kz K17).kz K18).gr Y33)
   obtain ⟨x63, hx63, hm⟩ := bnd hm
   refine qz [] rfl (eC en_37 rfl (epoch_Take_w hx63 (Own.rd B199) (Own.rd B200) (Own.rd B201) (Own.rd B202))) ⟨fun _ => tk0, trivial⟩ ?_
   rintro _ w63 ⟨u63_r0_1, z63_r0_1, g63_r0_1, u63_r1_s, z63_r1_s, g63_r1_s, rfl, O63_r0_1, f63_r0_1, O63_r1_s, f63_r1_s, d63_0, G63⟩
   have z203 := G63.size
   have lt204 := O63_r0_1.lth
   have lt205 := O63_r1_s.lth
   refine kG G63 ?_
   have Y34 := Gr.trans (Gr.trans (Gr.trans G60 G61) G62) G63
   have S206 := ((Kp.refl ([]) w47).gr Y34)
   refine dn 0 rfl rfl S206<|dn 0 rfl rfl S206<|dn 0 rfl rfl S206<|dn 0 rfl rfl S206 ?_
   have Y35 := Gr.trans (Gr.trans G61 G62) G63
   have B207 := (Bw60.gr Y35)
   refine qz [(1, b60)] rfl (ev_stW agg_78 rfl rfl (TReceiver.cs_ones _ _ (Own.oneB O63_r0_1)) B207 rfl rfl) ⟨fun _ => tk0, trivial⟩ ?_
   rintro _ w65 ⟨Bw65, M65⟩
   have z208 := M65.size
   refine kM M65 ?_
   have S209 := (S206.md M65)
   refine dn 0 rfl rfl S209<|dn 0 rfl rfl S209<|sd_nil ?_
   have K_210 : Kz [] w18 w65 := (((Kz.gr (Kz.refl _ _) G47).gr Y34).md M65)
   have B211 := (O63_r0_1.md M65 (pb_0 f63_r0_1))
   exact ⟨rfl, ⟨x63.2.2, x63.1, b60, u63_r0_1, z63_r0_1, g63_r0_1⟩, sbq, hm, B211, ⟨(pv_0 (A := (fun x => w18.heap.size ≤ x)) f63_r0_1)⟩, Bw65, (by omega), ⟨(pv_0 (A := (fun x => x ≠ b60)) f63_r0_1)⟩, K_210⟩
 clear hm; rintro ⟨a33, a35, bq34, vy36, zy36, gy36⟩ w19 ⟨hm, Fw19_0, Fw19_1, Fw19_2, Fw19_3, Fw19_4, K19⟩
 have z42 := K19.size
 have lt43 := Fw19_0.lth
 have lt44 := Fw19_2.lt
 unfold law05_alive_J7 at hm
 have X45 := (X41.kz K19)
 refine qj (β := Int × List (BitVec 8) × Value × Nat × Nat) ([4, 18, 19] ++ rg 138 9) (fun ⟨a37, a38, vy39, zy39, gy39⟩ => [(4, .int .i64 a37), (19, vy39)]) (fun ⟨a37, a38, vy39, zy39, gy39⟩ wr => (law05_alive_J8 a14 a20 a30 a33 a37 a38 = some r) ∧ Own wr zy39 gy39 5 1 vy39 (a38.map bvc) ∧ Hdn (zy39 = 0 ∨ w19.heap.size ≤ gy39) ∧ Kz [] w19 wr) ?_ ?_
 · refine dw [([])] [] (.fork [(2,10),(3,10)] (.fork [(0,0)] (.fork [(1,0)] (.leaf [(4,0),(5,10),(6,10),(7,10),(8,10),(9,0),(10,0),(11,10),(12,10)]) (.leaf [(9,0),(4,0),(5,10),(6,10),(7,10),(8,10),(10,0),(11,10),(12,10)])) (.leaf [(9,0),(1,0),(4,0),(5,10),(6,10),(7,10),(8,10),(10,0),(11,10),(12,10)])) (.leaf [(9,0),(0,0),(1,0),(4,0),(5,10),(6,10),(7,10),(8,10),(10,0),(11,10),(12,10)])) ?_
   intro w29 G29 zw29
   refine sdz_fork ?_
   have B78 := (Fw19_2.gr G29)
   refine dh 0 rfl rfl (fun w hS => vv_loadW agg_78 rfl (Bx.kp B78 hS) rfl) ?_
   have B79 := (((((Fw15_6.kz K16).kz K17).kz K18).kz K19).gr G29)
   refine dh 0 rfl rfl (fun w hS => vv_loadW agg_52 rfl (Bx.kp B79 hS) rfl)<|sd_fork ?_ ?_
   · refine sdz_fork ?_
     obtain ⟨x46, hx46, hm⟩ := bnd hm
     refine qz [] rfl (eC en_59 rfl (law05_four_w hx46)) ⟨fun _ => tk0, trivial⟩ ?_
     rintro _ w30 ⟨rfl, G30⟩
     have z80 := G30.size
     refine kG G30<|sd_fork ?_ ?_
     · refine sdz_fork ?_
       obtain ⟨x47, hx47, hm⟩ := bnd hm
       refine qz [] rfl (eC en_55 rfl (law05_hour_w hx47)) ⟨fun _ => tk0, trivial⟩ ?_
       rintro _ w31 ⟨rfl, G31⟩
       have z81 := G31.size
       refine kG G31<|sd_fork ?_ ?_
       · refine sdz_leaf ?_
         have Y36 := Gr.trans (Gr.trans G29 G30) G31
         have B82 := (Fw19_0.gr Y36)
         have B83 := (((((Fw15_0.kz K16).kz K17).kz K18).kz K19).gr Y36)
         have B84 := (((((Fw15_2.kz K16).kz K17).kz K18).kz K19).gr Y36)
         have B85 := (((((Fw15_4.kz K16).kz K17).kz K18).kz K19).gr Y36)
         obtain ⟨x48, hx48, hm⟩ := bnd hm
         refine qz [] rfl (eC en_37 rfl (epoch_Take_w hx48 (Own.rd B82) (Own.rd B83) (Own.rd B84) (Own.rd B85))) ⟨fun _ => tk0, trivial⟩ ?_
         rintro _ w32 ⟨u32_r0_1, z32_r0_1, g32_r0_1, u32_r1_s, z32_r1_s, g32_r1_s, rfl, O32_r0_1, f32_r0_1, O32_r1_s, f32_r1_s, d32_0, G32⟩
         have z86 := G32.size
         have lt87 := O32_r0_1.lth
         have lt88 := O32_r1_s.lth
         refine kG G32 ?_
         have S89 := ((((Kp.refl ([]) w29).gr G30).gr G31).gr G32)
         refine dn 0 rfl rfl S89<|dn 0 rfl rfl S89<|dn 0 rfl rfl S89<|dn 0 rfl rfl S89<|qz [] rfl (ev_alloc (cs := TReceiver.cs (TReceiver.mk (TSecret.mk 0 [] (TPoint.mk 0#64 0#64)) 0 (TA2_Slot.mk (TSlot.mk false 0 k0) (TSlot.mk false 0 k0))) (.slice none 0 0)) zv_78 rfl) ⟨fun _ => tk0, trivial⟩ ?_
         rintro _ w33 ⟨b33, rfl, hbw33, Bw33, G33⟩
         have z90 := G33.size
         have lt91 := Bw33.lt
         refine kG G33 ?_
         have B92 := (O32_r0_1.gr G33)
         refine qz [(1, b33)] rfl (ev_stW agg_78 rfl rfl (TReceiver.cs_ones _ _ (Own.oneB B92)) Bw33 rfl rfl) ⟨fun _ => tk0, trivial⟩ ?_
         rintro _ w34 ⟨Bw34, M34⟩
         have z93 := M34.size
         refine kM M34 ?_
         have S94 := ((S89.gr G33).md M34)
         refine dn 0 rfl rfl S94<|dn 0 rfl rfl S94<|sd_nil ?_
         have K_95 : Kz [] w19 w34 := ((((((Kz.gr (Kz.refl _ _) G29).gr G30).gr G31).gr G32).gr G33).md M34)
         have B96 := ((O32_r1_s.gr G33).md M34 (pb_lt lt88))
         exact ⟨rfl, ⟨x48.2.2, x48.2.1, u32_r1_s, z32_r1_s, g32_r1_s⟩, sbq, hm, B96, ⟨(pv_0 (A := (fun x => w19.heap.size ≤ x)) f32_r1_s)⟩, K_95⟩
       refine sdz_leaf<|qz [] rfl (ev_alloc (cs := TReceiver.cs (TReceiver.mk (TSecret.mk 0 [] (TPoint.mk 0#64 0#64)) 0 (TA2_Slot.mk (TSlot.mk false 0 k0) (TSlot.mk false 0 k0))) (.slice none 0 0)) zv_78 rfl) ⟨fun _ => tk0, trivial⟩ ?_
       rintro _ w35 ⟨b35, rfl, hbw35, Bw35, G35⟩
       have z97 := G35.size
       have lt98 := Bw35.lt
       refine kG G35 ?_
       have Y37 := Gr.trans (Gr.trans (Gr.trans G29 G30) G31) G35
       have B99 := (Fw19_0.gr Y37)
       have B100 := (((((Fw15_0.kz K16).kz K17).kz K18).kz K19).gr Y37)
       have B101 := (((((Fw15_2.kz K16).kz K17).kz K18).kz K19).gr Y37)
       have B102 := (((((Fw15_4.kz K16).kz K17).kz K18).kz K19).gr Y37)
       obtain ⟨x49, hx49, hm⟩ := bnd hm
       refine qz [] rfl (eC en_37 rfl (epoch_Take_w hx49 (Own.rd B99) (Own.rd B100) (Own.rd B101) (Own.rd B102))) ⟨fun _ => tk0, trivial⟩ ?_
       rintro _ w36 ⟨u36_r0_1, z36_r0_1, g36_r0_1, u36_r1_s, z36_r1_s, g36_r1_s, rfl, O36_r0_1, f36_r0_1, O36_r1_s, f36_r1_s, d36_0, G36⟩
       have z103 := G36.size
       have lt104 := O36_r0_1.lth
       have lt105 := O36_r1_s.lth
       refine kG G36 ?_
       have Y38 := Gr.trans (Gr.trans (Gr.trans G30 G31) G35) G36
       have S106 := ((Kp.refl ([]) w29).gr Y38)
       refine dn 0 rfl rfl S106<|dn 0 rfl rfl S106<|dn 0 rfl rfl S106<|dn 0 rfl rfl S106 ?_
       have B107 := (Bw35.gr G36)
       refine qz [(1, b35)] rfl (ev_stW agg_78 rfl rfl (TReceiver.cs_ones _ _ (Own.oneB O36_r0_1)) B107 rfl rfl) ⟨fun _ => tk0, trivial⟩ ?_
       rintro _ w37 ⟨Bw37, M37⟩
       have z108 := M37.size
       refine kM M37 ?_
       have S109 := (S106.md M37)
       refine dn 0 rfl rfl S109<|dn 0 rfl rfl S109<|sd_nil ?_
       have K_110 : Kz [] w19 w37 := (((Kz.gr (Kz.refl _ _) G29).gr Y38).md M37)
       have B111 := (O36_r1_s.md M37 (pb_0 f36_r1_s))
       exact ⟨rfl, ⟨x49.2.2, x49.2.1, u36_r1_s, z36_r1_s, g36_r1_s⟩, sbq, hm, B111, ⟨(pv_0 (A := (fun x => w19.heap.size ≤ x)) f36_r1_s)⟩, K_110⟩
     refine sdz_leaf<|qz [] rfl (ev_alloc (cs := TReceiver.cs (TReceiver.mk (TSecret.mk 0 [] (TPoint.mk 0#64 0#64)) 0 (TA2_Slot.mk (TSlot.mk false 0 k0) (TSlot.mk false 0 k0))) (.slice none 0 0)) zv_78 rfl) ⟨fun _ => tk0, trivial⟩ ?_
     rintro _ w38 ⟨b38, rfl, hbw38, Bw38, G38⟩
     have z112 := G38.size
     have lt113 := Bw38.lt
     refine kG G38 ?_
     obtain ⟨x50, hx50, hm⟩ := bnd hm
     refine qz [] rfl (eC en_55 rfl (law05_hour_w hx50)) ⟨fun _ => tk0, trivial⟩ ?_
     rintro _ w39 ⟨rfl, G39⟩
     have z114 := G39.size
     refine kG G39 ?_
     have Y39 := Gr.trans (Gr.trans (Gr.trans G29 G30) G38) G39
     have B115 := (Fw19_0.gr Y39)
     have B116 := (((((Fw15_0.kz K16).kz K17).kz K18).kz K19).gr Y39)
     have B117 := (((((Fw15_2.kz K16).kz K17).kz K18).kz K19).gr Y39)
     have B118 := (((((Fw15_4.kz K16).kz K17).kz K18).kz K19).gr Y39)
     obtain ⟨x51, hx51, hm⟩ := bnd hm
     refine qz [] rfl (eC en_37 rfl (epoch_Take_w hx51 (Own.rd B115) (Own.rd B116) (Own.rd B117) (Own.rd B118))) ⟨fun _ => tk0, trivial⟩ ?_
     rintro _ w40 ⟨u40_r0_1, z40_r0_1, g40_r0_1, u40_r1_s, z40_r1_s, g40_r1_s, rfl, O40_r0_1, f40_r0_1, O40_r1_s, f40_r1_s, d40_0, G40⟩
     have z119 := G40.size
     have lt120 := O40_r0_1.lth
     have lt121 := O40_r1_s.lth
     refine kG G40 ?_
     have Y40 := Gr.trans (Gr.trans (Gr.trans G30 G38) G39) G40
     have S122 := ((Kp.refl ([]) w29).gr Y40)
     refine dn 0 rfl rfl S122<|dn 0 rfl rfl S122<|dn 0 rfl rfl S122<|dn 0 rfl rfl S122 ?_
     have B123 := ((Bw38.gr G39).gr G40)
     refine qz [(1, b38)] rfl (ev_stW agg_78 rfl rfl (TReceiver.cs_ones _ _ (Own.oneB O40_r0_1)) B123 rfl rfl) ⟨fun _ => tk0, trivial⟩ ?_
     rintro _ w41 ⟨Bw41, M41⟩
     have z124 := M41.size
     refine kM M41 ?_
     have S125 := (S122.md M41)
     refine dn 0 rfl rfl S125<|dn 0 rfl rfl S125<|sd_nil ?_
     have K_126 : Kz [] w19 w41 := (((Kz.gr (Kz.refl _ _) G29).gr Y40).md M41)
     have B127 := (O40_r1_s.md M41 (pb_0 f40_r1_s))
     exact ⟨rfl, ⟨x51.2.2, x51.2.1, u40_r1_s, z40_r1_s, g40_r1_s⟩, sbq, hm, B127, ⟨(pv_0 (A := (fun x => w19.heap.size ≤ x)) f40_r1_s)⟩, K_126⟩
   refine sdz_leaf<|qz [] rfl (ev_alloc (cs := TReceiver.cs (TReceiver.mk (TSecret.mk 0 [] (TPoint.mk 0#64 0#64)) 0 (TA2_Slot.mk (TSlot.mk false 0 k0) (TSlot.mk false 0 k0))) (.slice none 0 0)) zv_78 rfl) ⟨fun _ => tk0, trivial⟩ ?_
   rintro _ w42 ⟨b42, rfl, hbw42, Bw42, G42⟩
   have z128 := G42.size
   have lt129 := Bw42.lt
   refine kG G42 ?_
   obtain ⟨x52, hx52, hm⟩ := bnd hm
   refine qz [] rfl (eC en_59 rfl (law05_four_w hx52)) ⟨fun _ => tk0, trivial⟩ ?_
   rintro _ w43 ⟨rfl, G43⟩
   have z130 := G43.size
   refine kG G43 ?_
   obtain ⟨x53, hx53, hm⟩ := bnd hm
   refine qz [] rfl (eC en_55 rfl (law05_hour_w hx53)) ⟨fun _ => tk0, trivial⟩ ?_
   rintro _ w44 ⟨rfl, G44⟩
   have z131 := G44.size
   refine kG G44 ?_
   have Y41 := Gr.trans (Gr.trans (Gr.trans G29 G42) G43) G44
   have B132 := (Fw19_0.gr Y41)
   have B133 := (((((Fw15_0.kz K16).kz K17).kz K18).kz K19).gr Y41)
   have B134 := (((((Fw15_2.kz K16).kz K17).kz K18).kz K19).gr Y41)
   have B135 := (((((Fw15_4.kz K16).kz K17).kz K18).kz K19).gr Y41)
   obtain ⟨x54, hx54, hm⟩ := bnd hm
   refine qz [] rfl (eC en_37 rfl (epoch_Take_w hx54 (Own.rd B132) (Own.rd B133) (Own.rd B134) (Own.rd B135))) ⟨fun _ => tk0, trivial⟩ ?_
   rintro _ w45 ⟨u45_r0_1, z45_r0_1, g45_r0_1, u45_r1_s, z45_r1_s, g45_r1_s, rfl, O45_r0_1, f45_r0_1, O45_r1_s, f45_r1_s, d45_0, G45⟩
   have z136 := G45.size
   have lt137 := O45_r0_1.lth
   have lt138 := O45_r1_s.lth
   refine kG G45 ?_
   have Y42 := Gr.trans (Gr.trans (Gr.trans G42 G43) G44) G45
   have S139 := ((Kp.refl ([]) w29).gr Y42)
   refine dn 0 rfl rfl S139<|dn 0 rfl rfl S139<|dn 0 rfl rfl S139<|dn 0 rfl rfl S139 ?_
   have Y43 := Gr.trans (Gr.trans G43 G44) G45
   have B140 := (Bw42.gr Y43)
   refine qz [(1, b42)] rfl (ev_stW agg_78 rfl rfl (TReceiver.cs_ones _ _ (Own.oneB O45_r0_1)) B140 rfl rfl) ⟨fun _ => tk0, trivial⟩ ?_
   rintro _ w46 ⟨Bw46, M46⟩
   have z141 := M46.size
   refine kM M46 ?_
   have S142 := (S139.md M46)
   refine dn 0 rfl rfl S142<|dn 0 rfl rfl S142<|sd_nil ?_
   have K_143 : Kz [] w19 w46 := (((Kz.gr (Kz.refl _ _) G29).gr Y42).md M46)
   have B144 := (O45_r1_s.md M46 (pb_0 f45_r1_s))
   exact ⟨rfl, ⟨x54.2.2, x54.2.1, u45_r1_s, z45_r1_s, g45_r1_s⟩, sbq, hm, B144, ⟨(pv_0 (A := (fun x => w19.heap.size ≤ x)) f45_r1_s)⟩, K_143⟩
 clear hm; rintro ⟨a37, a38, vy39, zy39, gy39⟩ w20 ⟨hm, Fw20_0, Fw20_1, K20⟩
 have z46 := K20.size
 have lt47 := Fw20_0.lth
 unfold law05_alive_J8 at hm
 refine sw_seq<|dw [([])] [] (.leaf [(2,10),(3,10),(0,0),(1,0),(4,0),(5,10),(6,10),(7,10),(8,10),(9,10)]) ?_
 intro w21 G21 zw21
 refine sdz_leaf ?_
 have B48 := ((((Fw17_2.kz K18).kz K19).kz K20).gr G21)
 refine dh 0 rfl rfl (fun w hS => vv_loadW agg_78 rfl (Bx.kp B48 hS) rfl) ?_
 have B49 := (((((((Fw14_6.kz K15).kz K16).kz K17).kz K18).kz K19).kz K20).gr G21)
 refine dh 0 rfl rfl (fun w hS => vv_loadW agg_52 rfl (Bx.kp B49 hS) rfl) ?_
 obtain ⟨x40, hx40, hm⟩ := bnd hm
 refine qz [] rfl (eC en_59 rfl (law05_four_w hx40)) ⟨fun _ => tk0, trivial⟩ ?_
 rintro _ w22 ⟨rfl, G22⟩
 have z50 := G22.size
 refine kG G22 ?_
 obtain ⟨x41, hx41, hm⟩ := bnd hm
 refine qz [] rfl (eC en_55 rfl (law05_hour_w hx41)) ⟨fun _ => tk0, trivial⟩ ?_
 rintro _ w23 ⟨rfl, G23⟩
 have z51 := G23.size
 refine kG G23 ?_
 have Y44 := Gr.trans (Gr.trans G21 G22) G23
 have B52 := ((((Fw17_0.kz K18).kz K19).kz K20).gr Y44)
 have B53 := (((((((Fw14_0.kz K15).kz K16).kz K17).kz K18).kz K19).kz K20).gr Y44)
 have B54 := (((((((Fw14_2.kz K15).kz K16).kz K17).kz K18).kz K19).kz K20).gr Y44)
 have B55 := (((((((Fw14_4.kz K15).kz K16).kz K17).kz K18).kz K19).kz K20).gr Y44)
 obtain ⟨x42, hx42, hm⟩ := bnd hm
 refine qz [] rfl (eC en_37 rfl (epoch_Take_w hx42 (Own.rd B52) (Own.rd B53) (Own.rd B54) (Own.rd B55))) ⟨fun _ => tk0, trivial⟩ ?_
 rintro _ w24 ⟨u24_r0_1, z24_r0_1, g24_r0_1, u24_r1_s, z24_r1_s, g24_r1_s, rfl, O24_r0_1, f24_r0_1, O24_r1_s, f24_r1_s, d24_0, G24⟩
 have z56 := G24.size
 have lt57 := O24_r0_1.lth
 have lt58 := O24_r1_s.lth
 refine kG G24 ?_
 have Y45 := Gr.trans (Gr.trans G22 G23) G24
 have S59 := ((Kp.refl ([]) w21).gr Y45)
 refine dn 0 rfl rfl S59<|dn 0 rfl rfl S59<|dn 0 rfl rfl S59<|dn 0 rfl rfl S59<|dn 0 rfl rfl S59<|sd_done<|sw_seq ?_
 refine dw [([])] [] (.leaf [(2,10),(3,10),(0,0),(1,0),(4,0),(5,10),(6,10),(7,10),(8,10),(9,10)]) ?_
 intro w25 G25 zw25
 refine sdz_leaf ?_
 have Y46 := Gr.trans Y45 G25
 have B60 := (B48.gr Y46)
 refine dh 0 rfl rfl (fun w hS => vv_loadW agg_78 rfl (Bx.kp B60 hS) rfl) ?_
 have Y47 := Gr.trans (Gr.trans Y44 G24) G25
 have B61 := ((((((Fw15_6.kz K16).kz K17).kz K18).kz K19).kz K20).gr Y47)
 refine dh 0 rfl rfl (fun w hS => vv_loadW agg_52 rfl (Bx.kp B61 hS) rfl) ?_
 obtain ⟨x43, hx43, hm⟩ := bnd hm
 refine qz [] rfl (eC en_59 rfl (law05_four_w hx43)) ⟨fun _ => tk0, trivial⟩ ?_
 rintro _ w26 ⟨rfl, G26⟩
 have z62 := G26.size
 refine kG G26 ?_
 obtain ⟨x44, hx44, hm⟩ := bnd hm
 refine qz [] rfl (eC en_55 rfl (law05_hour_w hx44)) ⟨fun _ => tk0, trivial⟩ ?_
 rintro _ w27 ⟨rfl, G27⟩
 have z63 := G27.size
 refine kG G27 ?_
 have Y48 := Gr.trans (Gr.trans (Gr.trans G24 G25) G26) G27
 have B64 := (B52.gr Y48)
 have Y49 := Gr.trans (Gr.trans Y47 G26) G27
 have B65 := ((((((Fw15_0.kz K16).kz K17).kz K18).kz K19).kz K20).gr Y49)
 have B66 := ((((((Fw15_2.kz K16).kz K17).kz K18).kz K19).kz K20).gr Y49)
 have B67 := ((((((Fw15_4.kz K16).kz K17).kz K18).kz K19).kz K20).gr Y49)
 obtain ⟨x45, hx45, hm⟩ := bnd hm
 refine qz [] rfl (eC en_37 rfl (epoch_Take_w hx45 (Own.rd B64) (Own.rd B65) (Own.rd B66) (Own.rd B67))) ⟨fun _ => tk0, trivial⟩ ?_
 rintro _ w28 ⟨u28_r0_1, z28_r0_1, g28_r0_1, u28_r1_s, z28_r1_s, g28_r1_s, rfl, O28_r0_1, f28_r0_1, O28_r1_s, f28_r1_s, d28_0, G28⟩
 have z68 := G28.size
 have lt69 := O28_r0_1.lth
 have lt70 := O28_r1_s.lth
 refine kG G28 ?_
 have Y50 := Gr.trans (Gr.trans G26 G27) G28
 have S71 := ((Kp.refl ([]) w25).gr Y50)
 refine dn 0 rfl rfl S71<|dn 0 rfl rfl S71<|dn 0 rfl rfl S71<|dn 0 rfl rfl S71<|dn 0 rfl rfl S71<|sd_done<|sw_seq ?_
 refine qg 20 rfl<|qm rfl<|qv rfl (vv_eql (a := a33) (b := 0) rfl rfl)<|qpF rfl (vv_move rfl) (fun c3 => ?_) (fun c3 => ?_)
 · replace hm := iF c3 hm
   refine qk rfl<|qk rfl<|qm rfl<|qm rfl<|qk rfl<|qk rfl<|qk rfl ?_
   refine qm rfl<|qm rfl<|qk rfl<|qk rfl<|qm rfl<|qm rfl<|qk rfl ?_
   refine qk rfl<|qm rfl<|qm rfl<|sd_done<|sw_ret ?_
   have Y51 := Gr.trans Y49 G28
   have X77 := ((X45.kz K20).trans Y51)
   cases hm
   refine ⟨_, _, rfl, res_1 rfl (rv_tmp rfl), ?_⟩
   exact ⟨rfl, X77⟩
 replace hm := iT c3 hm
 refine qm rfl<|qv rfl (vv_eql (a := a37) (b := 0) rfl rfl)<|qm rfl<|qpF rfl (vv_move rfl) (fun c4 => ?_) (fun c4 => ?_)
 · replace hm := iF c4 hm
   refine qk rfl<|qk rfl<|qk rfl<|qm rfl<|qm rfl<|qk rfl<|qk rfl ?_
   refine qm rfl<|qm rfl<|qk rfl<|qk rfl<|qm rfl<|qm rfl<|sd_done ?_
   refine sw_ret ?_
   have Y52 := Gr.trans Y49 G28
   have X76 := ((X45.kz K20).trans Y52)
   cases hm
   refine ⟨_, _, rfl, res_1 rfl (rv_tmp rfl), ?_⟩
   exact ⟨rfl, X76⟩
 replace hm := iT c4 hm
 refine qm rfl ?_
 have Y53 := Gr.trans Y49 G28
 have B72 := (Fw20_0.gr Y53)
 refine qv rfl (vv_b2s (l := a38) Tryz.underlying50 Tryz.underlying5 Tryz.underlying9 rfl (Own.rd B72))<|qv rfl (vv_eqlT (l := a38) (m := [97#8, 98#8, 99#8]) rfl rfl)<|qm rfl<|qpF rfl (vv_move rfl) (fun c5 => ?_) (fun c5 => ?_)
 · replace hm := iF c5 hm
   refine qk rfl<|qk rfl<|qm rfl<|qm rfl<|qk rfl<|qk rfl<|qm rfl ?_
   refine qm rfl<|sd_done<|sw_ret ?_
   have X75 := ((X45.kz K20).trans Y53)
   cases hm
   refine ⟨_, _, rfl, res_1 rfl (rv_tmp rfl), ?_⟩
   exact ⟨rfl, X75⟩
 replace hm := iT c5 hm
 refine qm rfl<|qv rfl (vv_eql (a := x42.2.2) (b := 6) rfl rfl)<|qm rfl<|qp rfl (vv_move rfl) (fun c6 => ?_) (fun c6 => ?_)
 · replace hm := iT c6 hm
   refine qm rfl<|qv rfl (vv_eql (a := x45.2.2) (b := 6) rfl rfl)<|qm rfl<|qm rfl<|sd_done<|sw_ret ?_
   have X73 := ((X45.kz K20).trans Y53)
   cases hm
   refine ⟨_, _, rfl, res_1 rfl (rv_tmp rfl), ?_⟩
   exact ⟨rfl, X73⟩
 replace hm := iF c6 hm
 refine qk rfl<|qk rfl<|qm rfl<|qm rfl<|sd_done<|sw_ret ?_
 have X74 := ((X45.kz K20).trans Y53)
 cases hm
 refine ⟨_, _, rfl, res_1 rfl (rv_tmp rfl), ?_⟩
 exact ⟨rfl, X74⟩
end Go.Proofs.YtjdffpglgkefmaaGreat.Mx
