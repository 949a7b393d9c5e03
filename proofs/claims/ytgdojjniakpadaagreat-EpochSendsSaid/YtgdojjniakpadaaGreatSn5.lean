/- Walks that follow mirrors: Sn5. Printed by mx.py. -/
import Derived.Test.YtgdojjniakpadaaGreatYs
import Derived.Test.YtgdojjniakpadaaGreatZd
set_option linter.unusedVariables false
set_option linter.unusedSimpArgs false
set_option maxRecDepth 100000
set_option maxHeartbeats 2000000
namespace Go.Proofs.YtgdojjniakpadaaGreat.Mx
open Go Go.RowKit Go.Sx
theorem bsl_32_0 : BSl Tryz.prog 32 0 5 1 [] := bsl_nil Tryz.underlying32 (one_5).siz
theorem en_8 : En Tryz.prog 8 := fun _ _ => by kernel_rfl
theorem en_9 : En Tryz.prog 9 := fun _ _ => by kernel_rfl
theorem en_10 : En Tryz.prog 10 := fun _ _ => by kernel_rfl
theorem en_11 : En Tryz.prog 11 := fun _ _ => by kernel_rfl
theorem en_12 : En Tryz.prog 12 := fun _ _ => by kernel_rfl
theorem law05_EpochSends_w {p0 p1 p2 p3 p4 p5 p6 p7 vp4 zp4 gp4 op4 vp7 zp7 gp7 op7 r} (hm : law05_EpochSends p0 p1 p2 p3 p4 p5 p6 p7 = some r) {w : World} (hp4 : Rd w zp4 gp4 op4 1 vp4 (p4.map ic)) (hp7 : Rd w zp7 gp7 op7 1 vp7 (p7.map bvc)) :
    Calls Tryz.prog 3 [kv p0, .agg (TScheme.cs p1).toArray, .agg (TAir.cs p2).toArray, .int .i64 p3, vp4, .int .i64 p5, wv p6, vp7].toArray w fun e w' => ∃ v, e = .returned v ∧ (v = .bool r ∧ Gr w w') := by
 have lt1 := hp4.lth
 have lt2 := hp7.lth
 unfold law05_EpochSends at hm
 refine calls_of_sw 113 Tryz.func3 rfl rfl rfl<|qs 4 rfl<|qe rfl (ev_box (cs := kb p0) rfl rfl) ?_
 rintro _ w1 ⟨b1, rfl, hbw1, Bw1, G1⟩
 have z3 := G1.size
 have lt4 := Bw1.lt
 refine qe rfl (ev_box (cs := TScheme.cs p1) rfl rfl) ?_
 rintro _ w2 ⟨b2, rfl, hbw2, Bw2, G2⟩
 have z5 := G2.size
 have lt6 := Bw2.lt
 refine qe rfl (ev_box (cs := TAir.cs p2) rfl rfl) ?_
 rintro _ w3 ⟨b3, rfl, hbw3, Bw3, G3⟩
 have z7 := G3.size
 have lt8 := Bw3.lt
 refine qm rfl<|sd_done<|sw_seq ?_
 have Y1 := Gr.trans (Gr.trans G1 G2) G3
 have X9 := ((Gr.refl w).trans Y1)
 refine qj (β := Bool) (rg 28 8) (fun a1 => [(35, .bool a1)]) (fun a1 wr => (law05_EpochSends_J1 p0 p1 p2 p3 p4 p5 p6 p7 a1 = some r) ∧ Kz [] w3 wr) ?_ ?_
 · refine qg 8 rfl<|qm rfl ?_
   have B120 := (hp4.gr Y1)
   refine qv rfl (vv_lenT (l := p4) (c := ic) Tryz.underlying31 rfl B120)<|qv rfl (vv_gtr (a := (p4.length : Int)) (b := 100) rfl rfl)<|qp rfl (vv_move rfl) (fun c7 => ?_) (fun c7 => ?_)
   · replace hm := iT c7 hm
     refine qk rfl<|qk rfl<|qk rfl<|qm rfl<|sd_nil ?_
     exact ⟨rfl, true, sbq, hm, kz0⟩
   replace hm := iF c7 hm
   refine qm rfl ?_
   have B122 := (hp7.gr Y1)
   refine qv rfl (vv_lenT (l := p7) (c := bvc) Tryz.underlying32 rfl B122)<|qv rfl (vv_gtr (a := (p7.length : Int)) (b := 1000) rfl rfl)<|qm rfl<|sd_nil ?_
   exact ⟨rfl, (decide ((1000 : Int) < (p7.length : Int))), sbq, hm, kz0⟩
 clear hm; rintro a1 w4 ⟨hm, K4⟩
 have z10 := K4.size
 unfold law05_EpochSends_J1 at hm
 refine sw_cond rfl (fun c1 => ?_) (fun c1 => ?_)
 · replace hm := cnd_t c1 hm
   refine qs 1 rfl<|qm rfl<|qb ?_
   have X11 := (X9.kz K4)
   cases hm
   refine ⟨_, _, rfl, res_1 rfl (rv_tmp rfl), ?_⟩
   exact ⟨rfl, X11⟩
 replace hm := cnd_f c1 hm
 refine qu<|qs 4 rfl<|qe rfl (ev_litT ([] : List (BitVec 8)) bvc bsl_32_0 rfl rfl (ws_of rfl) rfl rfl rfl) ?_
 rintro vw5 w5 ⟨gw5, hbw5, Ow5, G5⟩
 have z12 := G5.size
 have lt13 := Ow5.lth
 refine qm rfl ?_
 have B14 := (((hp7.gr Y1).kz K4).gr G5)
 obtain ⟨l2, hl2, hm⟩ := bnd hm
 refine qe rfl (ev_appT (l := ([] : List (BitVec 8))) (m := p7) (c := bvc) apt_32 rfl rfl Ow5 B14 hl2 (by decide)) ?_
 rintro vw6 w6 ⟨zw6, gw6, Ow6, Aw6, qw6, rw6⟩
 have z15 := Aw6.size
 refine qm rfl<|qd 11 rfl ?_
 have Y2 := Gr.trans G2 G3
 have B16 := ((((Bw1.gr Y2).kz K4).gr G5).ka Aw6 (tk1 ((.inr tk0) : 1 = 0 ∨ gw5 ≠ b1)))
 refine qv rfl (vv_loadW agg_23 rfl B16 rfl) ?_
 have B17 := ((((Bw2.gr G3).kz K4).gr G5).ka Aw6 (tk1 ((.inr tk0) : 1 = 0 ∨ gw5 ≠ b2)))
 refine qv rfl (vv_loadW agg_28 rfl B17 rfl)<|qm rfl<|qm rfl ?_
 have B18 := ((((hp4.gr Y1).kz K4).gr G5).ka Aw6 (tk1 ((pv_sw (.inr (tk1 lt1.o))) : zp4 = 0 ∨ 1 = 0 ∨ gp4 ≠ gw5)))
 obtain ⟨x3, hx3, hm⟩ := bnd hm
 refine qe rfl (eC en_8 rfl (epoch_Head_w hx3 B18)) ?_
 rintro _ w7 ⟨u7_r0_2, z7_r0_2, g7_r0_2, u7_r0_4, z7_r0_4, g7_r0_4, u7_r0_39, z7_r0_39, g7_r0_39, rfl, O7_r0_2, f7_r0_2, O7_r0_4, f7_r0_4, O7_r0_39, f7_r0_39, d7_0, d7_1, d7_2, G7⟩
 have z19 := G7.size
 have lt20 := O7_r0_2.lth
 have lt21 := O7_r0_4.lth
 have lt22 := O7_r0_39.lth
 refine qm rfl<|qm rfl<|qm rfl<|qe rfl (ev_alloc (cs := TPacket.cs (TPacket.mk 0#8 0 (THeader.mk [] 0#64 [] k0 k0) 0#8 0#64 [] k0) (.slice none 0 0) (.slice none 0 0) (.slice none 0 0)) zv_38 rfl) ?_
 rintro _ w8 ⟨b8, rfl, hbw8, Bw8, G8⟩
 have z23 := G8.size
 have lt24 := Bw8.lt
 have B25 := (O7_r0_2.gr G8)
 have B26 := (O7_r0_4.gr G8)
 have B27 := (O7_r0_39.gr G8)
 refine qe rfl (ev_stW agg_38 rfl rfl (TPacket.cs_ones _ _ _ _ (Own.oneB B25) (Own.oneB B26) (Own.oneB B27)) Bw8 rfl rfl) ?_
 rintro _ w9 ⟨Bw9, M9⟩
 have z28 := M9.size
 refine qm rfl<|qd 11 rfl ?_
 have Y3 := Gr.trans G7 G8
 have B29 := ((B16.gr Y3).md M9)
 refine qv rfl (vv_loadW agg_23 rfl B29 rfl) ?_
 have B30 := ((B17.gr Y3).md M9)
 refine qv rfl (vv_loadW agg_28 rfl B30 rfl)<|qm rfl<|qm rfl ?_
 have B31 := ((B18.gr Y3).md M9 (pb_lt lt1))
 obtain ⟨x4, hx4, hm⟩ := bnd hm
 refine qe rfl (eC en_9 rfl (ref05_Head_w hx4 B31)) ?_
 rintro _ w10 ⟨u10_r0_2, z10_r0_2, g10_r0_2, u10_r0_4, z10_r0_4, g10_r0_4, u10_r0_39, z10_r0_39, g10_r0_39, rfl, O10_r0_2, f10_r0_2, O10_r0_4, f10_r0_4, O10_r0_39, f10_r0_39, d10_0, d10_1, d10_2, G10⟩
 have z32 := G10.size
 have lt33 := O10_r0_2.lth
 have lt34 := O10_r0_4.lth
 have lt35 := O10_r0_39.lth
 refine qm rfl<|qm rfl<|qm rfl<|qe rfl (ev_alloc (cs := TPacket.cs (TPacket.mk 0#8 0 (THeader.mk [] 0#64 [] k0 k0) 0#8 0#64 [] k0) (.slice none 0 0) (.slice none 0 0) (.slice none 0 0)) zv_38 rfl) ?_
 rintro _ w11 ⟨b11, rfl, hbw11, Bw11, G11⟩
 have z36 := G11.size
 have lt37 := Bw11.lt
 have B38 := (O10_r0_2.gr G11)
 have B39 := (O10_r0_4.gr G11)
 have B40 := (O10_r0_39.gr G11)
 refine qe rfl (ev_stW agg_38 rfl rfl (TPacket.cs_ones _ _ _ _ (Own.oneB B38) (Own.oneB B39) (Own.oneB B40)) Bw11 rfl rfl) ?_
 rintro _ w12 ⟨Bw12, M12⟩
 have z41 := M12.size
 refine qm rfl<|qd 12 rfl ?_
 have Y4 := Gr.trans G10 G11
 have B42 := ((B29.gr Y4).md M12)
 refine qv rfl (vv_loadW agg_23 rfl B42 rfl) ?_
 have B43 := (((((((Bw3.kz K4).gr G5).ka Aw6 (tk1 ((.inr tk0) : 1 = 0 ∨ gw5 ≠ b3))).gr Y3).md M9).gr Y4).md M12)
 refine qv rfl (vv_loadW agg_30 rfl B43 rfl)<|qm rfl<|qm rfl<|qm rfl ?_
 have B44 := ((((Ow6.gr Y3).md M9 (pb_lt qw6)).gr Y4).md M12 (pb_lt qw6))
 obtain ⟨x5, hx5, hm⟩ := bnd hm
 refine qe rfl (eC en_10 rfl (epoch_Content_w hx5 (Own.rd B44))) ?_
 rintro _ w13 ⟨u13_r0_2, z13_r0_2, g13_r0_2, u13_r0_4, z13_r0_4, g13_r0_4, u13_r0_39, z13_r0_39, g13_r0_39, rfl, O13_r0_2, f13_r0_2, O13_r0_4, f13_r0_4, O13_r0_39, f13_r0_39, d13_0, d13_1, d13_2, G13⟩
 have z45 := G13.size
 have lt46 := O13_r0_2.lth
 have lt47 := O13_r0_4.lth
 have lt48 := O13_r0_39.lth
 refine qm rfl<|qm rfl<|qm rfl<|qe rfl (ev_alloc (cs := TPacket.cs (TPacket.mk 0#8 0 (THeader.mk [] 0#64 [] k0 k0) 0#8 0#64 [] k0) (.slice none 0 0) (.slice none 0 0) (.slice none 0 0)) zv_38 rfl) ?_
 rintro _ w14 ⟨b14, rfl, hbw14, Bw14, G14⟩
 have z49 := G14.size
 have lt50 := Bw14.lt
 have B51 := (O13_r0_2.gr G14)
 have B52 := (O13_r0_4.gr G14)
 have B53 := (O13_r0_39.gr G14)
 refine qe rfl (ev_stW agg_38 rfl rfl (TPacket.cs_ones _ _ _ _ (Own.oneB B51) (Own.oneB B52) (Own.oneB B53)) Bw14 rfl rfl) ?_
 rintro _ w15 ⟨Bw15, M15⟩
 have z54 := M15.size
 refine qm rfl<|qd 12 rfl ?_
 have Y5 := Gr.trans G13 G14
 have B55 := ((B42.gr Y5).md M15)
 refine qv rfl (vv_loadW agg_23 rfl B55 rfl) ?_
 have B56 := ((B43.gr Y5).md M15)
 refine qv rfl (vv_loadW agg_30 rfl B56 rfl)<|qm rfl<|qm rfl<|qm rfl ?_
 have B57 := (((((((B14.ka Aw6 (tk1 ((pv_sw (.inr (tk1 lt2.o))) : zp7 = 0 ∨ 1 = 0 ∨ gp7 ≠ gw5))).gr Y3).md M9 (pb_lt lt2)).gr Y4).md M12 (pb_lt lt2)).gr Y5).md M15 (pb_lt lt2))
 obtain ⟨x6, hx6, hm⟩ := bnd hm
 refine qe rfl (eC en_11 rfl (ref05_Content_w hx6 B57)) ?_
 rintro _ w16 ⟨u16_r0_2, z16_r0_2, g16_r0_2, u16_r0_4, z16_r0_4, g16_r0_4, u16_r0_39, z16_r0_39, g16_r0_39, rfl, O16_r0_2, f16_r0_2, O16_r0_4, f16_r0_4, O16_r0_39, f16_r0_39, d16_0, d16_1, d16_2, G16⟩
 have z58 := G16.size
 have lt59 := O16_r0_2.lth
 have lt60 := O16_r0_4.lth
 have lt61 := O16_r0_39.lth
 refine qm rfl<|qm rfl<|qm rfl<|qe rfl (ev_alloc (cs := TPacket.cs (TPacket.mk 0#8 0 (THeader.mk [] 0#64 [] k0 k0) 0#8 0#64 [] k0) (.slice none 0 0) (.slice none 0 0) (.slice none 0 0)) zv_38 rfl) ?_
 rintro _ w17 ⟨b17, rfl, hbw17, Bw17, G17⟩
 have z62 := G17.size
 have lt63 := Bw17.lt
 have B64 := (O16_r0_2.gr G17)
 have B65 := (O16_r0_4.gr G17)
 have B66 := (O16_r0_39.gr G17)
 refine qe rfl (ev_stW agg_38 rfl rfl (TPacket.cs_ones _ _ _ _ (Own.oneB B64) (Own.oneB B65) (Own.oneB B66)) Bw17 rfl rfl) ?_
 rintro _ w18 ⟨Bw18, M18⟩
 have z67 := M18.size
 refine qm rfl<|sd_done ?_
 have Y6 := Gr.trans G16 G17
 have X68 := (((((((((((X9.kz K4).trans G5).ka Aw6 (tk1 ((.inr tk0) : 1 = 0 ∨ w.heap.size ≤ gw5))).trans Y3).md M9).trans Y4).md M12).trans Y5).md M15).trans Y6).md M18)
 refine qj (β := Bool) ([26] ++ rg 73 18) (fun a7 => [(26, .bool a7)]) (fun a7 wr => (law05_EpochSends_J2 p7 l2 x5 a7 = some r) ∧ Kz [] w18 wr) ?_ ?_
 · refine qg 19 rfl ?_
   have B98 := ((((((Bw9.gr Y4).md M12).gr Y5).md M15).gr Y6).md M18)
   refine qv rfl (vv_loadW agg_38 rfl B98 rfl) ?_
   have B99 := ((((Bw12.gr Y5).md M15).gr Y6).md M18)
   refine qv rfl (vv_loadW agg_38 rfl B99 rfl) ?_
   have B100 := (((((((B25.md M9 (pb_lt lt20)).gr Y4).md M12 (pb_lt lt20)).gr Y5).md M15 (pb_lt lt20)).gr Y6).md M18 (pb_lt lt20))
   have B101 := (((((((B26.md M9 (pb_lt lt21)).gr Y4).md M12 (pb_lt lt21)).gr Y5).md M15 (pb_lt lt21)).gr Y6).md M18 (pb_lt lt21))
   have B102 := (((((((B27.md M9 (pb_lt lt22)).gr Y4).md M12 (pb_lt lt22)).gr Y5).md M15 (pb_lt lt22)).gr Y6).md M18 (pb_lt lt22))
   have B103 := (((((B38.md M12 (pb_lt lt33)).gr Y5).md M15 (pb_lt lt33)).gr Y6).md M18 (pb_lt lt33))
   have B104 := (((((B39.md M12 (pb_lt lt34)).gr Y5).md M15 (pb_lt lt34)).gr Y6).md M18 (pb_lt lt34))
   have B105 := (((((B40.md M12 (pb_lt lt35)).gr Y5).md M15 (pb_lt lt35)).gr Y6).md M18 (pb_lt lt35))
   obtain ⟨x16, hx16, hm⟩ := bnd hm
   refine qe rfl (eC en_12 rfl (ref05_SamePacket_w hx16 (Own.rd B100) (Own.rd B101) (Own.rd B102) (Own.rd B103) (Own.rd B104) (Own.rd B105))) ?_
   rintro _ w22 ⟨rfl, G22⟩
   have z106 := G22.size
   refine qpF rfl (vv_move rfl) (fun c4 => ?_) (fun c4 => ?_)
   · replace hm := cnd_f c4 hm
     refine qk rfl<|qk rfl<|qk rfl<|qm rfl<|qm rfl<|qk rfl<|qk rfl ?_
     refine qk rfl<|qm rfl<|qm rfl<|qk rfl<|qk rfl<|qk rfl<|qm rfl ?_
     refine qm rfl<|sd_nil ?_
     exact ⟨rfl, false, sbq, hm, (kz0.gr G22)⟩
   replace hm := cnd_t c4 hm
   refine qm rfl<|qm rfl<|qv rfl (vv_eql (a := x3.2) (b := x4.2) rfl rfl)<|qm rfl<|qpF rfl (vv_move rfl) (fun c5 => ?_) (fun c5 => ?_)
   · replace hm := iF c5 hm
     refine qk rfl<|qk rfl<|qk rfl<|qm rfl<|qm rfl<|qk rfl<|qk rfl ?_
     refine qk rfl<|qm rfl<|qm rfl<|sd_nil ?_
     exact ⟨rfl, false, sbq, hm, (kz0.gr G22)⟩
   replace hm := iT c5 hm
   have B107 := (((Bw15.gr Y6).md M18).gr G22)
   refine qv rfl (vv_loadW agg_38 rfl B107 rfl) ?_
   have B108 := (Bw18.gr G22)
   refine qv rfl (vv_loadW agg_38 rfl B108 rfl) ?_
   have B109 := ((((B51.md M15 (pb_lt lt46)).gr Y6).md M18 (pb_lt lt46)).gr G22)
   have B110 := ((((B52.md M15 (pb_lt lt47)).gr Y6).md M18 (pb_lt lt47)).gr G22)
   have B111 := ((((B53.md M15 (pb_lt lt48)).gr Y6).md M18 (pb_lt lt48)).gr G22)
   have B112 := ((B64.md M18 (pb_lt lt59)).gr G22)
   have B113 := ((B65.md M18 (pb_lt lt60)).gr G22)
   have B114 := ((B66.md M18 (pb_lt lt61)).gr G22)
   obtain ⟨x17, hx17, hm⟩ := bnd hm
   refine qe rfl (eC en_12 rfl (ref05_SamePacket_w hx17 (Own.rd B109) (Own.rd B110) (Own.rd B111) (Own.rd B112) (Own.rd B113) (Own.rd B114))) ?_
   rintro _ w23 ⟨rfl, G23⟩
   have z115 := G23.size
   refine qm rfl<|qp rfl (vv_move rfl) (fun c6 => ?_) (fun c6 => ?_)
   · replace hm := cnd_t c6 hm
     refine qm rfl<|qm rfl<|qv rfl (vv_eql (a := x5.2) (b := x6.2) rfl rfl)<|qm rfl<|qm rfl<|sd_nil ?_
     exact ⟨rfl, (decide (x5.2 = x6.2)), sbq, hm, ((kz0.gr G22).gr G23)⟩
   replace hm := cnd_f c6 hm
   refine qk rfl<|qk rfl<|qk rfl<|qm rfl<|qm rfl<|sd_nil ?_
   exact ⟨rfl, false, sbq, hm, ((kz0.gr G22).gr G23)⟩
 clear hm; rintro a7 w19 ⟨hm, K19⟩
 have z69 := K19.size
 unfold law05_EpochSends_J2 at hm
 refine sw_seq<|qs 4 rfl<|qv rfl (vv_fieldAddr fa_38_5 rfl) ?_
 have B70 := (((Bw15.gr Y6).md M18).kz K19)
 refine qv rfl (vv_load1 (v := u13_r0_39) one_32 rfl B70 rfl) ?_
 have B71 := ((((B53.md M15 (pb_lt lt48)).gr Y6).md M18 (pb_lt lt48)).kz K19)
 refine qv rfl (vv_lenT (l := x5.1.Data) (c := bvc) Tryz.underlying32 rfl (Own.rd B71))<|qm rfl<|sd_done<|sw_block ?_
 have X72 := (X68.kz K19)
 have B73 := (((((((B31.gr Y4).md M12 (pb_lt lt1)).gr Y5).md M15 (pb_lt lt1)).gr Y6).md M18 (pb_lt lt1)).kz K19)
 have B74 := (((B57.gr Y6).md M18 (pb_lt lt2)).kz K19)
 have B75 := (((((B44.gr Y5).md M15 (pb_lt qw6)).gr Y6).md M18 (pb_lt qw6)).kz K19)
 have B76 := ((((((((B25.md M9 (pb_lt lt20)).gr Y4).md M12 (pb_lt lt20)).gr Y5).md M15 (pb_lt lt20)).gr Y6).md M18 (pb_lt lt20)).kz K19)
 have B77 := ((((((((B26.md M9 (pb_lt lt21)).gr Y4).md M12 (pb_lt lt21)).gr Y5).md M15 (pb_lt lt21)).gr Y6).md M18 (pb_lt lt21)).kz K19)
 have B78 := ((((((((B27.md M9 (pb_lt lt22)).gr Y4).md M12 (pb_lt lt22)).gr Y5).md M15 (pb_lt lt22)).gr Y6).md M18 (pb_lt lt22)).kz K19)
 have B79 := ((((((B38.md M12 (pb_lt lt33)).gr Y5).md M15 (pb_lt lt33)).gr Y6).md M18 (pb_lt lt33)).kz K19)
 have B80 := ((((((B39.md M12 (pb_lt lt34)).gr Y5).md M15 (pb_lt lt34)).gr Y6).md M18 (pb_lt lt34)).kz K19)
 have B81 := ((((((B40.md M12 (pb_lt lt35)).gr Y5).md M15 (pb_lt lt35)).gr Y6).md M18 (pb_lt lt35)).kz K19)
 have B82 := ((((B51.md M15 (pb_lt lt46)).gr Y6).md M18 (pb_lt lt46)).kz K19)
 have B83 := ((((B52.md M15 (pb_lt lt47)).gr Y6).md M18 (pb_lt lt47)).kz K19)
 have B84 := ((B64.md M18 (pb_lt lt59)).kz K19)
 have B85 := ((B65.md M18 (pb_lt lt60)).kz K19)
 have B86 := ((B66.md M18 (pb_lt lt61)).kz K19)
 refine sw_loopD (α := Nat × Int × List (BitVec 8) × Value × Nat × Nat) ([27] ++ rg 94 11) (fun ⟨n3, a11, a12, vy13, zy13, gy13⟩ => [(94, .int .i64 a11)]) (fun ⟨n3, a11, a12, vy13, zy13, gy13⟩ wr => (fixN (law05_EpochSends_L3 p7 l2 x5 a7) n3 (a11, a12) = some r) ∧ Own wr zy13 gy13 5 1 vy13 (a12.map bvc) ∧ Hdn (zy13 = 0 ∨ (gy13 = g13_r0_39 ∧ z13_r0_39 ≠ 0) ∨ w19.heap.size ≤ gy13) ∧ Bx wr b14 38 (TPacket.cs (TPacket.mk x5.1.Kind x5.1.Epoch x5.1.Head x5.1.Low x5.1.Number a12 x5.1.Mac) u13_r0_2 u13_r0_4 vy13) ∧ Kz [(1, b14), (z13_r0_39, g13_r0_39)] w19 wr) (fun ⟨n3, a11, a12, vy13, zy13, gy13⟩ => n3) ⟨FUEL, 0, x5.1.Data, u13_r0_39, z13_r0_39, g13_r0_39⟩ ?_ ?_ ?_
 · exact sbq
 · exact ⟨hm, B71, ⟨tk0⟩, B70, Kz.refl _ _⟩
 clear hm; rintro ⟨n3, a11, a12, vy13, zy13, gy13⟩ w20 ⟨hm, Fw20_0, Fw20_1, Fw20_2, K20⟩
 have z87 := K20.size
 have lt88 := Fw20_0.lth
 have lt89 := Fw20_2.lt
 have hb := fix_succ hm; clear hm; obtain ⟨n3, rfl, hm⟩ := hb
 generalize hrec3 : fixN (law05_EpochSends_L3 p7 l2 x5 a7) n3 = rec3 at hm
 unfold law05_EpochSends_L3 at hm
 try dsimp only at hm
 refine qs 1 rfl<|qv rfl (vv_lss (a := a11) (b := (x5.1.Data.length : Int)) rfl rfl)<|sd_done<|sw_seq<|sw_cond rfl (fun c2 => ?_) (fun c2 => ?_)
 · replace hm := iT c2 hm
   refine qu<|sw_seq<|sw_block<|qs 2 rfl<|qm rfl ?_
   refine qm rfl<|sd_done<|qg 8 rfl<|qv rfl (vv_fieldAddr fa_38_5 rfl)<|qv rfl (vv_load1 (v := vy13) one_32 rfl Fw20_2 rfl)<|qm rfl ?_
   obtain ⟨y14, hy14, hm⟩ := bnd hm
   refine qv rfl (vv_ixT (i := a11) Tryz.underlying32 (one_5).siz rfl (Own.rd Fw20_0) rfl hy14)<|qv rfl (vv_el1T (q := 0) (u := bv y14) one_5 rfl (Own.rd Fw20_0) hy14 (by first | rfl | omega) rfl)<|qv rfl (vv_addB (p := y14) (q := 1#8) rfl rfl) ?_
   obtain ⟨y15, hy15, hm⟩ := bnd hm
   refine qv rfl (vv_ixT (i := a11) Tryz.underlying32 (one_5).siz rfl (Own.rd Fw20_0) rfl hy15) ?_
   have zo90 := Own.z1 Fw20_0 hy15
   refine qe rfl (ev_stEl (i := a11) (q := 0) (a' := y14 + 1#8) (vs := [bv (y14 + 1#8)]) (c := bvc) (one_5).siz rfl rfl rfl rfl rfl Fw20_0 hy15 (by first | rfl | omega) rfl rfl ⟨rfl, rfl⟩) ?_
   rintro _ w21 ⟨Ow21, M21⟩
   have z91 := M21.size
   refine sd_nil<|block_n<|then_n<|qg 2 rfl<|qv rfl (vv_add (k := .i64) (a := a11) (b := 1) rfl rfl)<|qm rfl<|sd_nil ?_
   have K_92 : Kz [(1, b14), (z13_r0_39, g13_r0_39)] w19 w21 := (K20.md M21 (tk1 (pv_1 (A := (fun x => (x = g13_r0_39 ∧ z13_r0_39 ≠ 0) ∨ w19.heap.size ≤ x)) Fw20_1 tk0)))
   have B93 := (Fw20_2.md M21 (tk1 (pb_1 (b := b14) Fw20_1 (pb_lt lt48))))
   subst hrec3
   exact ⟨rfl, ⟨n3, w64 (a11 + 1), a12.set a11.toNat (y14 + 1#8), vy13, zy13, gy13⟩, sbq, ⟨hm, Ow21, ⟨(pv_1 (A := (fun x => (x = g13_r0_39 ∧ z13_r0_39 ≠ 0) ∨ w19.heap.size ≤ x)) Fw20_1 tk0)⟩, B93, K_92⟩, Nat.lt_succ_self _⟩
 replace hm := iF c2 hm
 refine sw_exit<|then_x<|then_x<|block_x<|then_n<|qs 9 rfl ?_
 refine qm rfl<|qpF rfl (vv_move rfl) (fun c3 => ?_) (fun c3 => ?_)
 · replace hm := cnd_f c3 hm
   refine qk rfl<|qk rfl<|qk rfl<|qk rfl<|qk rfl<|qm rfl<|qm rfl ?_
   refine sd_done<|sw_ret ?_
   have X97 := (X72.kz K20 (tk1 (pv_0 (A := (fun x => w.heap.size ≤ x)) f13_r0_39)))
   cases hm
   refine ⟨_, _, rfl, res_1 rfl (rv_tmp rfl), ?_⟩
   exact ⟨rfl, X97⟩
 replace hm := cnd_t c3 hm
 refine qm rfl ?_
 have B94 := (B75.kz K20 (tk2 ((pv_sw (pv_0 (A := (fun x => zw6 = 0 ∨ x ≠ gw6)) f13_r0_39 (fun x hx => (tk1 qw6.o)))) : zw6 = 0 ∨ z13_r0_39 = 0 ∨ gw6 ≠ g13_r0_39) (pb_lt (b := b14) qw6)))
 refine qv rfl (vv_b2s (l := l2) Tryz.underlying32 Tryz.underlying5 Tryz.underlying9 rfl (Own.rd B94))<|qm rfl ?_
 have B95 := (B74.kz K20 (tk2 ((pv_sw (pv_0 (A := (fun x => zp7 = 0 ∨ x ≠ gp7)) f13_r0_39 (fun x hx => (tk1 lt2.o)))) : zp7 = 0 ∨ z13_r0_39 = 0 ∨ gp7 ≠ g13_r0_39) (pb_lt (b := b14) lt2)))
 refine qv rfl (vv_b2s (l := p7) Tryz.underlying32 Tryz.underlying5 Tryz.underlying9 rfl B95)<|qv rfl (vv_eqlT (l := l2) (m := p7) rfl rfl)<|qm rfl<|qm rfl<|sd_done<|sw_ret ?_
 have X96 := (X72.kz K20 (tk1 (pv_0 (A := (fun x => w.heap.size ≤ x)) f13_r0_39)))
 cases hm
 refine ⟨_, _, rfl, res_1 rfl (rv_tmp rfl), ?_⟩
 exact ⟨rfl, X96⟩
end Go.Proofs.YtgdojjniakpadaaGreat.Mx
