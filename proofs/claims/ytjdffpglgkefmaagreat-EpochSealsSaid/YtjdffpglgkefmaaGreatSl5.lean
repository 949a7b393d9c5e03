/- Walks that follow mirrors: Sl5. Printed by mx.py. -/
import Derived.Test.YtjdffpglgkefmaaGreatYe
import Derived.Test.YtjdffpglgkefmaaGreatZd
set_option linter.unusedVariables false
set_option linter.unusedSimpArgs false
set_option maxRecDepth 100000
set_option maxHeartbeats 2000000
namespace Go.Proofs.YtjdffpglgkefmaaGreat.Mx
open Go Go.RowKit Go.Sx
theorem zv_52 : ZV Tryz.prog 52 (.agg [.int .u8 0, .int .i64 0, .slice none 0 0, .int .u64 0, .slice none 0 0, .int .u8 0, .int .u8 0, .int .u8 0, .int .u8 0, .int .u8 0, .int .u8 0, .int .u8 0, .int .u8 0, .int .u8 0, .int .u8 0, .int .u8 0, .int .u8 0, .int .u8 0, .int .u8 0, .int .u8 0, .int .u8 0, .int .u8 0, .int .u8 0, .int .u8 0, .int .u8 0, .int .u8 0, .int .u8 0, .int .u8 0, .int .u8 0, .int .u8 0, .int .u8 0, .int .u8 0, .int .u8 0, .int .u8 0, .int .u8 0, .int .u8 0, .int .u8 0, .int .u8 0, .int .u64 0, .slice none 0 0, .int .u8 0, .int .u8 0, .int .u8 0, .int .u8 0, .int .u8 0, .int .u8 0, .int .u8 0, .int .u8 0, .int .u8 0, .int .u8 0, .int .u8 0, .int .u8 0, .int .u8 0, .int .u8 0, .int .u8 0, .int .u8 0].toArray) := fun _ => by kernel_rfl
theorem bs_52 : BS Tryz.prog 52 (fun i => [(0, 1), (1, 1), (2, 35), (37, 1), (38, 1), (39, 1), (40, 16)][i]?) [.int .u8 0, .int .i64 0, .slice none 0 0, .int .u64 0, .slice none 0 0, .int .u8 0, .int .u8 0, .int .u8 0, .int .u8 0, .int .u8 0, .int .u8 0, .int .u8 0, .int .u8 0, .int .u8 0, .int .u8 0, .int .u8 0, .int .u8 0, .int .u8 0, .int .u8 0, .int .u8 0, .int .u8 0, .int .u8 0, .int .u8 0, .int .u8 0, .int .u8 0, .int .u8 0, .int .u8 0, .int .u8 0, .int .u8 0, .int .u8 0, .int .u8 0, .int .u8 0, .int .u8 0, .int .u8 0, .int .u8 0, .int .u8 0, .int .u8 0, .int .u8 0, .int .u64 0, .slice none 0 0, .int .u8 0, .int .u8 0, .int .u8 0, .int .u8 0, .int .u8 0, .int .u8 0, .int .u8 0, .int .u8 0, .int .u8 0, .int .u8 0, .int .u8 0, .int .u8 0, .int .u8 0, .int .u8 0, .int .u8 0, .int .u8 0] := bs_mk Tryz.underlying52 zv_52 ⟨rfl, (one_5).siz, rfl, (one_3).siz, rfl, (agg_48).siz, rfl, (one_5).siz, rfl, (one_24).siz, rfl, (one_50).siz, rfl, (agg_23).siz, trivial⟩
theorem en_22 : En Tryz.prog 22 := fun _ _ => by kernel_rfl
theorem bsl_44_0 : BSl Tryz.prog 44 0 3 1 [] := bsl_nil Tryz.underlying44 (one_3).siz
theorem en_23 : En Tryz.prog 23 := fun _ _ => by kernel_rfl
theorem en_24 : En Tryz.prog 24 := fun _ _ => by kernel_rfl
theorem en_25 : En Tryz.prog 25 := fun _ _ => by kernel_rfl
theorem en_26 : En Tryz.prog 26 := fun _ _ => by kernel_rfl
theorem en_27 : En Tryz.prog 27 := fun _ _ => by kernel_rfl
theorem en_28 : En Tryz.prog 28 := fun _ _ => by kernel_rfl
theorem law05_sameInts_w {p0 p1 vp0 zp0 gp0 op0 vp1 zp1 gp1 op1 r} (hm : law05_sameInts p0 p1 = some r) {w : World} (hp0 : Rd w zp0 gp0 op0 1 vp0 (p0.map ic)) (hp1 : Rd w zp1 gp1 op1 1 vp1 (p1.map ic)) :
    Calls Tryz.prog 28 [vp0, vp1].toArray w fun e w' => ∃ v, e = .returned v ∧ (v = .bool r ∧ Gr w w') := by
 unfold law05_sameInts at hm
 refine calls_of_sw 26 Tryz.func28 rfl rfl rfl<|qs 1 rfl<|qm rfl<|sd_done<|sw_seq<|qs 5 rfl<|qm rfl<|qv rfl (vv_lenT (l := p0) (c := ic) Tryz.underlying44 rfl hp0)<|qm rfl<|qv rfl (vv_lenT (l := p1) (c := ic) Tryz.underlying44 rfl hp1)<|qv rfl (vv_neq (a := (p0.length : Int)) (b := (p1.length : Int)) rfl rfl) ?_
 refine sd_done<|sw_cond rfl (fun c1 => ?_) (fun c1 => ?_)
 · replace hm := iT c1 hm
   refine qs 1 rfl<|qm rfl<|qb ?_
   cases hm
   refine ⟨_, _, rfl, res_1 rfl (rv_tmp rfl), ?_⟩
   exact ⟨rfl, (Gr.refl w)⟩
 replace hm := iF c1 hm
 refine qu<|sw_seq<|qs 3 rfl<|qm rfl<|qv rfl (vv_lenT (l := p0) (c := ic) Tryz.underlying44 rfl hp0)<|qm rfl<|sd_done<|sw_block<|sw_loopD (α := Nat × Int) ([4, 5] ++ rg 13 13) (fun ⟨n1, a2⟩ => [(4, .bool false), (13, .int .i64 a2)]) (fun ⟨n1, a2⟩ wr => (fixN (law05_sameInts_L1 p0 p1) n1 a2 = some r) ∧ Kz [] w wr) (fun ⟨n1, a2⟩ => n1) ⟨FUEL, 0⟩ ?_ ?_ ?_
 · exact sbq
 · exact ⟨hm, Kz.refl _ _⟩
 clear hm; rintro ⟨n1, a2⟩ w1 ⟨hm, K1⟩
 have hb := fix_succ hm; clear hm; obtain ⟨n1, rfl, hm⟩ := hb
 generalize hrec1 : fixN (law05_sameInts_L1 p0 p1) n1 = rec1 at hm
 unfold law05_sameInts_L1 at hm
 try dsimp only at hm
 refine qs 1 rfl<|qv rfl (vv_lss (a := a2) (b := (p0.length : Int)) rfl rfl)<|sd_done<|sw_seq<|cnF rfl (fun c2 => ?_) (fun c2 => ?_)
 · replace hm := iF c2 hm
   refine sw_exit<|then_x<|then_x<|block_x<|then_n<|qs 1 rfl<|qm rfl<|sd_done<|sw_ret ?_
   have X8 := ((Gr.refl w).kz K1)
   cases hm
   refine ⟨_, _, rfl, res_1 rfl (rv_tmp rfl), ?_⟩
   exact ⟨rfl, X8⟩
 replace hm := iT c2 hm
 refine qu<|sw_seq<|sw_block<|qs 2 rfl<|qm rfl<|qm rfl<|sd_done<|sw_seq<|dw [([])] [] (.leaf [(0,10),(1,10),(2,10),(3,10),(4,10),(5,10),(6,10),(7,10),(8,10)]) ?_
 intro w2 G2 zw2
 refine sdz_leaf<|dm 0 rfl rfl<|dm 0 rfl rfl ?_
 obtain ⟨y3, hy3, hm⟩ := bnd hm
 have B4 := ((hp0.kz K1).gr G2)
 refine dh 0 rfl rfl (fun w hS => vv_ixT (i := a2) Tryz.underlying44 (one_3).siz rfl (Rd.kp B4 hS) rfl hy3)<|dh 0 rfl rfl (fun w hS => vv_el1T (q := 0) (u := .int .i64 y3) one_3 rfl (Rd.kp B4 hS) hy3 (by first | rfl | omega) rfl)<|dm 0 rfl rfl<|dm 0 rfl rfl ?_
 obtain ⟨y4, hy4, hm⟩ := bnd hm
 have B5 := ((hp1.kz K1).gr G2)
 refine dh 0 rfl rfl (fun w hS => vv_ixT (i := a2) Tryz.underlying44 (one_3).siz rfl (Rd.kp B5 hS) rfl hy4)<|dh 0 rfl rfl (fun w hS => vv_el1T (q := 0) (u := .int .i64 y4) one_3 rfl (Rd.kp B5 hS) hy4 (by first | rfl | omega) rfl)<|dh 0 rfl rfl (fun w hS => vv_neq (a := y3) (b := y4) rfl rfl)<|sd_done<|sw_cond rfl (fun c3 => ?_) (fun c3 => ?_)
 · replace hm := iT c3 hm
   refine qs 1 rfl<|qm rfl<|sd_done<|sw_ret<|block_r<|then_r<|then_r<|block_r<|then_r ?_
   have X6 := (((Gr.refl w).kz K1).trans G2)
   cases hm
   refine ⟨_, _, rfl, res_1 rfl (rv_tmp rfl), ?_⟩
   exact ⟨rfl, X6⟩
 replace hm := iF c3 hm
 refine sw_skip<|block_n<|then_n<|qg 2 rfl<|qv rfl (vv_add (k := .i64) (a := a2) (b := 1) rfl rfl)<|qm rfl<|sd_nil ?_
 have K_7 : Kz [] w w2 := (K1.gr G2)
 subst hrec1
 exact ⟨rfl, ⟨n1, w64 (a2 + 1)⟩, sbq, ⟨hm, K_7⟩, Nat.lt_succ_self _⟩
theorem law05_EpochSeals_w {p0 p1 p2 p3 p4 p5 vp3 zp3 gp3 op3 vp4_1 zp4_1 gp4_1 op4_1 vp5_0 zp5_0 gp5_0 op5_0 vp5_2 zp5_2 gp5_2 op5_2 r} (hm : law05_EpochSeals p0 p1 p2 p3 p4 p5 = some r) {w : World} (hp3 : Rd w zp3 gp3 op3 1 vp3 (p3.map ic)) (hp4_1 : Rd w zp4_1 gp4_1 op4_1 18 vp4_1 (p4.Labels.map TLabel.cs)) (hp5_0 : Rd w zp5_0 gp5_0 op5_0 18 vp5_0 (p5.Items.map TItem.cs)) (hp5_2 : Rd w zp5_2 gp5_2 op5_2 2 vp5_2 (p5.Points.map TPoint.cs)) :
    Calls Tryz.prog 4 [kv p0, .agg (TScheme.cs p1).toArray, .int .i64 p2, vp3, .agg (TSecret.cs p4 vp4_1).toArray, .agg (THeader.cs p5 vp5_0 vp5_2).toArray].toArray w fun e w' => ∃ v, e = .returned v ∧ (v = .bool r ∧ Gr w w') := by
 have lt1 := hp3.lth
 have lt2 := hp4_1.lth
 have lt3 := hp5_0.lth
 have lt4 := hp5_2.lth
 unfold law05_EpochSeals at hm
 refine calls_of_sw 115 Tryz.func4 rfl rfl rfl<|qs 5 rfl<|qe rfl (ev_box (cs := kb p0) rfl rfl) ?_
 rintro _ w1 ⟨b1, rfl, hbw1, Bw1, G1⟩
 have lt6 := Bw1.lt
 refine qe rfl (ev_box (cs := TScheme.cs p1) rfl rfl) ?_
 rintro _ w2 ⟨b2, rfl, hbw2, Bw2, G2⟩
 have lt8 := Bw2.lt
 refine qe rfl (ev_box (cs := TSecret.cs p4 vp4_1) rfl rfl) ?_
 rintro _ w3 ⟨b3, rfl, hbw3, Bw3, G3⟩
 have lt10 := Bw3.lt
 refine qe rfl (ev_box (cs := THeader.cs p5 vp5_0 vp5_2) rfl rfl) ?_
 rintro _ w4 ⟨b4, rfl, hbw4, Bw4, G4⟩
 have lt12 := Bw4.lt
 refine qm rfl<|sd_done<|sw_seq ?_
 have Y1 := Gr.trans (Gr.trans (Gr.trans G1 G2) G3) G4
 have X13 := ((Gr.refl w).trans Y1)
 refine qj (β := Bool) (rg 26 9) (fun a1 => [(34, .bool a1)]) (fun a1 wr => (law05_EpochSeals_J1 p0 p1 p2 p3 p4 p5 a1 = some r) ∧ Kz [] w4 wr) ?_ ?_
 · refine qg 9 rfl<|qm rfl ?_
   have B102 := (hp3.gr Y1)
   refine qv rfl (vv_lenT (l := p3) (c := ic) Tryz.underlying44 rfl B102)<|qv rfl (vv_gtr (a := (p3.length : Int)) (b := 100) rfl rfl)<|qp rfl (vv_move rfl) (fun c8 => ?_) (fun c8 => ?_)
   · replace hm := iT c8 hm
     refine qk rfl<|qk rfl<|qk rfl<|qk rfl<|qm rfl<|sd_nil ?_
     exact ⟨rfl, true, sbq, hm, kz0⟩
   replace hm := iF c8 hm
   have B104 := (Bw3.gr G4)
   refine qv rfl (vv_loadW agg_33 rfl B104 rfl)<|qv rfl (vv_loadW agg_48 rfl Bw4 rfl)<|qv rfl (vv_build (cs := TPacket.cs (TPacket.mk 0#8 0 p5 0#8 0#64 [] k0) vp5_0 vp5_2 (.slice none 0 0)) bs_52 rfl (fill_M rfl rfl rfl (by kernel_rfl))) ?_
   have B105 := (hp4_1.gr Y1)
   have B106 := (hp5_0.gr Y1)
   have B107 := (hp5_2.gr Y1)
   obtain ⟨x11, hx11, hm⟩ := bnd hm
   refine qe rfl (eC en_22 rfl (ref05_Great_w hx11 B105 B106 B107 (Own.rd (own_nil _ 0 5 1)))) ?_
   rintro _ w28 ⟨rfl, G28⟩
   refine qm rfl<|sd_nil ?_
   exact ⟨rfl, x11, sbq, hm, (kz0.gr G28)⟩
 clear hm; rintro a1 w5 ⟨hm, K5⟩
 have z14 := K5.size
 unfold law05_EpochSeals_J1 at hm
 refine sw_cond rfl (fun c1 => ?_) (fun c1 => ?_)
 · replace hm := cnd_t c1 hm
   refine qs 1 rfl<|qm rfl<|qb ?_
   have X15 := (X13.kz K5)
   cases hm
   refine ⟨_, _, rfl, res_1 rfl (rv_tmp rfl), ?_⟩
   exact ⟨rfl, X15⟩
 replace hm := cnd_f c1 hm
 refine qu<|qs 4 rfl<|qe rfl (ev_litT ([] : List Int) ic bsl_44_0 rfl rfl (ws_of rfl) rfl rfl rfl) ?_
 rintro vw6 w6 ⟨gw6, hbw6, Ow6, G6⟩
 have z16 := G6.size
 refine qm rfl ?_
 have B18 := (((hp3.gr Y1).kz K5).gr G6)
 obtain ⟨l2, hl2, hm⟩ := bnd hm
 refine qe rfl (ev_appT (l := ([] : List Int)) (m := p3) (c := ic) apt_44 rfl rfl Ow6 B18 hl2 (by decide)) ?_
 rintro vw7 w7 ⟨zw7, gw7, Ow7, Aw7, qw7, rw7⟩
 have z19 := Aw7.size
 refine qm rfl<|qd 11 rfl ?_
 have Y2 := Gr.trans (Gr.trans G2 G3) G4
 have B20 := ((((Bw1.gr Y2).kz K5).gr G6).ka Aw7 (tk1 ((.inr tk0) : 1 = 0 ∨ gw6 ≠ b1)))
 refine qv rfl (vv_loadW agg_23 rfl B20 rfl) ?_
 have Y3 := Gr.trans G3 G4
 have B21 := ((((Bw2.gr Y3).kz K5).gr G6).ka Aw7 (tk1 ((.inr tk0) : 1 = 0 ∨ gw6 ≠ b2)))
 refine qv rfl (vv_loadW agg_28 rfl B21 rfl)<|qm rfl<|qm rfl ?_
 obtain ⟨x3, hx3, hm⟩ := bnd hm
 refine qe rfl (eC en_23 rfl (epoch_Seal_w hx3 (Own.rd Ow7))) ?_
 rintro _ w8 ⟨u8_r0_0, z8_r0_0, g8_r0_0, u8_r0_2, z8_r0_2, g8_r0_2, rfl, O8_r0_0, f8_r0_0, O8_r0_2, f8_r0_2, d8_0, G8⟩
 have z22 := G8.size
 have lt23 := O8_r0_0.lth
 have lt24 := O8_r0_2.lth
 refine qm rfl<|qm rfl<|qm rfl<|qe rfl (ev_alloc (cs := THeader.cs (THeader.mk [] 0#64 [] k0 k0) (.slice none 0 0) (.slice none 0 0)) zv_48 rfl) ?_
 rintro _ w9 ⟨b9, rfl, hbw9, Bw9, G9⟩
 have lt26 := Bw9.lt
 have B27 := (O8_r0_0.gr G9)
 have B28 := (O8_r0_2.gr G9)
 refine qe rfl (ev_stW agg_48 rfl rfl (THeader.cs_ones _ _ _ (Own.oneB B27) (Own.oneB B28)) Bw9 rfl rfl) ?_
 rintro _ w10 ⟨Bw10, M10⟩
 have z29 := M10.size
 refine qm rfl<|qd 11 rfl ?_
 have Y4 := Gr.trans G8 G9
 have B30 := ((B20.gr Y4).md M10)
 refine qv rfl (vv_loadW agg_23 rfl B30 rfl) ?_
 have B31 := ((B21.gr Y4).md M10)
 refine qv rfl (vv_loadW agg_28 rfl B31 rfl)<|qm rfl<|qm rfl ?_
 have B32 := (((B18.ka Aw7 (tk1 ((pv_sw (.inr (tk1 lt1.o))) : zp3 = 0 ∨ 1 = 0 ∨ gp3 ≠ gw6))).gr Y4).md M10 (pb_lt lt1))
 obtain ⟨x4, hx4, hm⟩ := bnd hm
 refine qe rfl (eC en_24 rfl (ref05_Seal_w hx4 B32)) ?_
 rintro _ w11 ⟨u11_r0_0, z11_r0_0, g11_r0_0, u11_r0_2, z11_r0_2, g11_r0_2, rfl, O11_r0_0, f11_r0_0, O11_r0_2, f11_r0_2, d11_0, G11⟩
 have z33 := G11.size
 have lt34 := O11_r0_0.lth
 have lt35 := O11_r0_2.lth
 refine qm rfl<|qm rfl<|qm rfl<|qe rfl (ev_alloc (cs := THeader.cs (THeader.mk [] 0#64 [] k0 k0) (.slice none 0 0) (.slice none 0 0)) zv_48 rfl) ?_
 rintro _ w12 ⟨b12, rfl, hbw12, Bw12, G12⟩
 have lt37 := Bw12.lt
 have B38 := (O11_r0_0.gr G12)
 have B39 := (O11_r0_2.gr G12)
 refine qe rfl (ev_stW agg_48 rfl rfl (THeader.cs_ones _ _ _ (Own.oneB B38) (Own.oneB B39)) Bw12 rfl rfl) ?_
 rintro _ w13 ⟨Bw13, M13⟩
 have z40 := M13.size
 refine qm rfl<|qd 10 rfl ?_
 have Y5 := Gr.trans G11 G12
 have B41 := ((B31.gr Y5).md M13)
 refine qv rfl (vv_loadW agg_28 rfl B41 rfl) ?_
 have B42 := ((((((((Bw3.gr G4).kz K5).gr G6).ka Aw7 (tk1 ((.inr tk0) : 1 = 0 ∨ gw6 ≠ b3))).gr Y4).md M10).gr Y5).md M13)
 refine qv rfl (vv_loadW agg_33 rfl B42 rfl) ?_
 have B43 := (((((((Bw4.kz K5).gr G6).ka Aw7 (tk1 ((.inr tk0) : 1 = 0 ∨ gw6 ≠ b4))).gr Y4).md M10).gr Y5).md M13)
 refine qv rfl (vv_loadW agg_48 rfl B43 rfl) ?_
 have B44 := ((((((((hp4_1.gr Y1).kz K5).gr G6).ka Aw7 (tk1 ((pv_sw (.inr (tk1 lt2.o))) : zp4_1 = 0 ∨ 1 = 0 ∨ gp4_1 ≠ gw6))).gr Y4).md M10 (pb_lt lt2)).gr Y5).md M13 (pb_lt lt2))
 have B45 := ((((((((hp5_0.gr Y1).kz K5).gr G6).ka Aw7 (tk1 ((pv_sw (.inr (tk1 lt3.o))) : zp5_0 = 0 ∨ 1 = 0 ∨ gp5_0 ≠ gw6))).gr Y4).md M10 (pb_lt lt3)).gr Y5).md M13 (pb_lt lt3))
 have B46 := ((((((((hp5_2.gr Y1).kz K5).gr G6).ka Aw7 (tk1 ((pv_sw (.inr (tk1 lt4.o))) : zp5_2 = 0 ∨ 1 = 0 ∨ gp5_2 ≠ gw6))).gr Y4).md M10 (pb_lt lt4)).gr Y5).md M13 (pb_lt lt4))
 obtain ⟨x5, hx5, hm⟩ := bnd hm
 refine qe rfl (eC en_25 rfl (epoch_Open_w hx5 B44 B45 B46)) ?_
 rintro _ w14 ⟨rfl, G14⟩
 have z47 := G14.size
 refine qm rfl<|qm rfl<|qm rfl<|qe rfl (ev_alloc (cs := kb k0) zv_23 rfl) ?_
 rintro _ w15 ⟨b15, rfl, hbw15, Bw15, G15⟩
 have lt49 := Bw15.lt
 refine qe rfl (ev_stW agg_23 rfl rfl rfl Bw15 rfl rfl) ?_
 rintro _ w16 ⟨Bw16, M16⟩
 have z50 := M16.size
 refine qm rfl<|qd 10 rfl ?_
 have Y6 := Gr.trans G14 G15
 have B51 := ((B41.gr Y6).md M16)
 refine qv rfl (vv_loadW agg_28 rfl B51 rfl) ?_
 have B52 := ((B42.gr Y6).md M16)
 refine qv rfl (vv_loadW agg_33 rfl B52 rfl) ?_
 have B53 := ((B43.gr Y6).md M16)
 refine qv rfl (vv_loadW agg_48 rfl B53 rfl) ?_
 have B54 := ((B44.gr Y6).md M16 (pb_lt lt2))
 have B55 := ((B45.gr Y6).md M16 (pb_lt lt3))
 have B56 := ((B46.gr Y6).md M16 (pb_lt lt4))
 obtain ⟨x6, hx6, hm⟩ := bnd hm
 refine qe rfl (eC en_26 rfl (ref05_Open_w hx6 B54 B55 B56)) ?_
 rintro _ w17 ⟨rfl, G17⟩
 have z57 := G17.size
 refine qm rfl<|qm rfl<|qm rfl<|qe rfl (ev_alloc (cs := kb k0) zv_23 rfl) ?_
 rintro _ w18 ⟨b18, rfl, hbw18, Bw18, G18⟩
 have lt59 := Bw18.lt
 refine qe rfl (ev_stW agg_23 rfl rfl rfl Bw18 rfl rfl) ?_
 rintro _ w19 ⟨Bw19, M19⟩
 have z60 := M19.size
 refine qm rfl<|qd 10 rfl ?_
 have Y7 := Gr.trans G17 G18
 have B61 := ((B51.gr Y7).md M19)
 refine qv rfl (vv_loadW agg_28 rfl B61 rfl) ?_
 have B62 := ((B52.gr Y7).md M19)
 refine qv rfl (vv_loadW agg_33 rfl B62 rfl) ?_
 have B63 := ((((((Bw10.gr Y5).md M13).gr Y6).md M16).gr Y7).md M19)
 refine qv rfl (vv_loadW agg_48 rfl B63 rfl) ?_
 have B64 := ((B54.gr Y7).md M19 (pb_lt lt2))
 have B65 := (((((((B27.md M10 (pb_lt lt23)).gr Y5).md M13 (pb_lt lt23)).gr Y6).md M16 (pb_lt lt23)).gr Y7).md M19 (pb_lt lt23))
 have B66 := (((((((B28.md M10 (pb_lt lt24)).gr Y5).md M13 (pb_lt lt24)).gr Y6).md M16 (pb_lt lt24)).gr Y7).md M19 (pb_lt lt24))
 obtain ⟨x7, hx7, hm⟩ := bnd hm
 refine qe rfl (eC en_25 rfl (epoch_Open_w hx7 B64 (Own.rd B65) (Own.rd B66))) ?_
 rintro _ w20 ⟨rfl, G20⟩
 have z67 := G20.size
 refine qm rfl<|qm rfl<|qm rfl<|qe rfl (ev_alloc (cs := kb k0) zv_23 rfl) ?_
 rintro _ w21 ⟨b21, rfl, hbw21, Bw21, G21⟩
 have lt69 := Bw21.lt
 refine qe rfl (ev_stW agg_23 rfl rfl rfl Bw21 rfl rfl) ?_
 rintro _ w22 ⟨Bw22, M22⟩
 have z70 := M22.size
 refine qm rfl<|qd 10 rfl ?_
 have Y8 := Gr.trans G20 G21
 have B71 := ((B61.gr Y8).md M22)
 refine qv rfl (vv_loadW agg_28 rfl B71 rfl) ?_
 have B72 := ((B62.gr Y8).md M22)
 refine qv rfl (vv_loadW agg_33 rfl B72 rfl) ?_
 have B73 := ((((((Bw13.gr Y6).md M16).gr Y7).md M19).gr Y8).md M22)
 refine qv rfl (vv_loadW agg_48 rfl B73 rfl) ?_
 have B74 := ((B64.gr Y8).md M22 (pb_lt lt2))
 have B75 := (((((((B38.md M13 (pb_lt lt34)).gr Y6).md M16 (pb_lt lt34)).gr Y7).md M19 (pb_lt lt34)).gr Y8).md M22 (pb_lt lt34))
 have B76 := (((((((B39.md M13 (pb_lt lt35)).gr Y6).md M16 (pb_lt lt35)).gr Y7).md M19 (pb_lt lt35)).gr Y8).md M22 (pb_lt lt35))
 obtain ⟨x8, hx8, hm⟩ := bnd hm
 refine qe rfl (eC en_26 rfl (ref05_Open_w hx8 B74 (Own.rd B75) (Own.rd B76))) ?_
 rintro _ w23 ⟨rfl, G23⟩
 have z77 := G23.size
 refine qm rfl<|qm rfl<|qm rfl<|qe rfl (ev_alloc (cs := kb k0) zv_23 rfl) ?_
 rintro _ w24 ⟨b24, rfl, hbw24, Bw24, G24⟩
 refine qe rfl (ev_stW agg_23 rfl rfl rfl Bw24 rfl rfl) ?_
 rintro _ w25 ⟨Bw25, M25⟩
 refine qm rfl<|qd 34 rfl ?_
 have Y9 := Gr.trans G23 G24
 have B81 := ((((B63.gr Y8).md M22).gr Y9).md M25)
 refine qv rfl (vv_loadW agg_48 rfl B81 rfl) ?_
 have B82 := ((B73.gr Y9).md M25)
 refine qv rfl (vv_loadW agg_48 rfl B82 rfl) ?_
 have B83 := ((((B65.gr Y8).md M22 (pb_lt lt23)).gr Y9).md M25 (pb_lt lt23))
 have B84 := ((((B66.gr Y8).md M22 (pb_lt lt24)).gr Y9).md M25 (pb_lt lt24))
 have B85 := ((B75.gr Y9).md M25 (pb_lt lt34))
 have B86 := ((B76.gr Y9).md M25 (pb_lt lt35))
 obtain ⟨x9, hx9, hm⟩ := bnd hm
 refine qe rfl (eC en_27 rfl (ref05_SameHeader_w hx9 (Own.rd B83) (Own.rd B84) (Own.rd B85) (Own.rd B86))) ?_
 rintro _ w26 ⟨rfl, G26⟩
 refine qpF rfl (vv_move rfl) (fun c2 => ?_) (fun c2 => ?_)
 · replace hm := cnd_f c2 hm
   refine qk rfl<|qk rfl<|qk rfl<|qm rfl<|qm rfl<|qk rfl<|qk rfl<|qk rfl<|qm rfl<|qm rfl<|qk rfl<|qk rfl<|qk rfl ?_
   refine qm rfl<|qm rfl<|qk rfl<|qk rfl<|qk rfl<|qm rfl<|qm rfl<|qk rfl<|qk rfl<|qk rfl<|qm rfl<|qm rfl<|qk rfl ?_
   refine qk rfl<|qk rfl<|qm rfl<|qm rfl<|sd_done<|sw_ret ?_
   have X101 := ((((((((((((((((X13.kz K5).trans G6).ka Aw7 (tk1 ((.inr tk0) : 1 = 0 ∨ w.heap.size ≤ gw6))).trans Y4).md M10).trans Y5).md M13).trans Y6).md M16).trans Y7).md M19).trans Y8).md M22).trans Y9).md M25).trans G26)
   cases hm
   refine ⟨_, _, rfl, res_1 rfl (rv_tmp rfl), ?_⟩
   exact ⟨rfl, X101⟩
 replace hm := cnd_t c2 hm
 refine qm rfl<|qm rfl<|qv rfl (vv_eql (a := x3.2) (b := x4.2) rfl rfl)<|qm rfl<|qpF rfl (vv_move rfl) (fun c3 => ?_) (fun c3 => ?_)
 · replace hm := iF c3 hm
   refine qk rfl<|qk rfl<|qk rfl<|qm rfl<|qm rfl<|qk rfl<|qk rfl<|qk rfl<|qm rfl<|qm rfl<|qk rfl<|qk rfl<|qk rfl ?_
   refine qm rfl<|qm rfl<|qk rfl<|qk rfl<|qk rfl<|qm rfl<|qm rfl<|qk rfl<|qk rfl<|qk rfl<|qm rfl<|qm rfl<|sd_done ?_
   refine sw_ret ?_
   have X100 := ((((((((((((((((X13.kz K5).trans G6).ka Aw7 (tk1 ((.inr tk0) : 1 = 0 ∨ w.heap.size ≤ gw6))).trans Y4).md M10).trans Y5).md M13).trans Y6).md M16).trans Y7).md M19).trans Y8).md M22).trans Y9).md M25).trans G26)
   cases hm
   refine ⟨_, _, rfl, res_1 rfl (rv_tmp rfl), ?_⟩
   exact ⟨rfl, X100⟩
 replace hm := iT c3 hm
 have B88 := (((((((Bw16.gr Y7).md M19).gr Y8).md M22).gr Y9).md M25).gr G26)
 refine qv rfl (vv_loadW agg_23 rfl B88 rfl) ?_
 have B89 := (((((Bw19.gr Y8).md M22).gr Y9).md M25).gr G26)
 refine qv rfl (vv_loadW agg_23 rfl B89 rfl)<|qv rfl (vv_eqlS (cf := kb) (a := x5.1) (b := x6.1) eqt_23 rfl rfl rfl rfl (fun h => kb_inj h))<|qm rfl<|qpF rfl (vv_move rfl) (fun c4 => ?_) (fun c4 => ?_)
 · replace hm := iF c4 hm
   refine qk rfl<|qk rfl<|qk rfl<|qm rfl<|qm rfl<|qk rfl<|qk rfl<|qk rfl<|qm rfl<|qm rfl<|qk rfl<|qk rfl<|qk rfl ?_
   refine qm rfl<|qm rfl<|qk rfl<|qk rfl<|qk rfl<|qm rfl<|qm rfl<|sd_done<|sw_ret ?_
   have X99 := ((((((((((((((((X13.kz K5).trans G6).ka Aw7 (tk1 ((.inr tk0) : 1 = 0 ∨ w.heap.size ≤ gw6))).trans Y4).md M10).trans Y5).md M13).trans Y6).md M16).trans Y7).md M19).trans Y8).md M22).trans Y9).md M25).trans G26)
   cases hm
   refine ⟨_, _, rfl, res_1 rfl (rv_tmp rfl), ?_⟩
   exact ⟨rfl, X99⟩
 replace hm := iT c4 hm
 refine qm rfl<|qm rfl<|qv rfl (vv_eql (a := x5.2) (b := x6.2) rfl rfl)<|qm rfl<|qpF rfl (vv_move rfl) (fun c5 => ?_) (fun c5 => ?_)
 · replace hm := iF c5 hm
   refine qk rfl<|qk rfl<|qk rfl<|qm rfl<|qm rfl<|qk rfl<|qk rfl<|qk rfl<|qm rfl<|qm rfl<|qk rfl<|qk rfl<|qk rfl ?_
   refine qm rfl<|qm rfl<|sd_done<|sw_ret ?_
   have X98 := ((((((((((((((((X13.kz K5).trans G6).ka Aw7 (tk1 ((.inr tk0) : 1 = 0 ∨ w.heap.size ≤ gw6))).trans Y4).md M10).trans Y5).md M13).trans Y6).md M16).trans Y7).md M19).trans Y8).md M22).trans Y9).md M25).trans G26)
   cases hm
   refine ⟨_, _, rfl, res_1 rfl (rv_tmp rfl), ?_⟩
   exact ⟨rfl, X98⟩
 replace hm := iT c5 hm
 have B90 := (((Bw22.gr Y9).md M25).gr G26)
 refine qv rfl (vv_loadW agg_23 rfl B90 rfl) ?_
 have B91 := (Bw25.gr G26)
 refine qv rfl (vv_loadW agg_23 rfl B91 rfl)<|qv rfl (vv_eqlS (cf := kb) (a := x7.1) (b := x8.1) eqt_23 rfl rfl rfl rfl (fun h => kb_inj h))<|qm rfl<|qpF rfl (vv_move rfl) (fun c6 => ?_) (fun c6 => ?_)
 · replace hm := iF c6 hm
   refine qk rfl<|qk rfl<|qk rfl<|qm rfl<|qm rfl<|qk rfl<|qk rfl<|qk rfl<|qm rfl<|qm rfl<|sd_done<|sw_ret ?_
   have X97 := ((((((((((((((((X13.kz K5).trans G6).ka Aw7 (tk1 ((.inr tk0) : 1 = 0 ∨ w.heap.size ≤ gw6))).trans Y4).md M10).trans Y5).md M13).trans Y6).md M16).trans Y7).md M19).trans Y8).md M22).trans Y9).md M25).trans G26)
   cases hm
   refine ⟨_, _, rfl, res_1 rfl (rv_tmp rfl), ?_⟩
   exact ⟨rfl, X97⟩
 replace hm := iT c6 hm
 refine qm rfl<|qm rfl<|qv rfl (vv_eql (a := x7.2) (b := x8.2) rfl rfl)<|qm rfl<|qpF rfl (vv_move rfl) (fun c7 => ?_) (fun c7 => ?_)
 · replace hm := iF c7 hm
   refine qk rfl<|qk rfl<|qk rfl<|qm rfl<|qm rfl<|sd_done<|sw_ret ?_
   have X96 := ((((((((((((((((X13.kz K5).trans G6).ka Aw7 (tk1 ((.inr tk0) : 1 = 0 ∨ w.heap.size ≤ gw6))).trans Y4).md M10).trans Y5).md M13).trans Y6).md M16).trans Y7).md M19).trans Y8).md M22).trans Y9).md M25).trans G26)
   cases hm
   refine ⟨_, _, rfl, res_1 rfl (rv_tmp rfl), ?_⟩
   exact ⟨rfl, X96⟩
 replace hm := iT c7 hm
 refine qm rfl<|qm rfl ?_
 have B92 := (((((((((((((Ow7.gr Y4).md M10 (pb_lt qw7)).gr Y5).md M13 (pb_lt qw7)).gr Y6).md M16 (pb_lt qw7)).gr Y7).md M19 (pb_lt qw7)).gr Y8).md M22 (pb_lt qw7)).gr Y9).md M25 (pb_lt qw7)).gr G26)
 have B93 := (((((((((((B32.gr Y5).md M13 (pb_lt lt1)).gr Y6).md M16 (pb_lt lt1)).gr Y7).md M19 (pb_lt lt1)).gr Y8).md M22 (pb_lt lt1)).gr Y9).md M25 (pb_lt lt1)).gr G26)
 obtain ⟨x10, hx10, hm⟩ := bnd hm
 refine qe rfl (eC en_28 rfl (law05_sameInts_w hx10 (Own.rd B92) B93)) ?_
 rintro _ w27 ⟨rfl, G27⟩
 refine qm rfl<|qm rfl<|sd_done<|sw_ret ?_
 have X95 := (((((((((((((((((X13.kz K5).trans G6).ka Aw7 (tk1 ((.inr tk0) : 1 = 0 ∨ w.heap.size ≤ gw6))).trans Y4).md M10).trans Y5).md M13).trans Y6).md M16).trans Y7).md M19).trans Y8).md M22).trans Y9).md M25).trans G26).trans G27)
 cases hm
 refine ⟨_, _, rfl, res_1 rfl (rv_tmp rfl), ?_⟩
 exact ⟨rfl, X95⟩
end Go.Proofs.YtjdffpglgkefmaaGreat.Mx
