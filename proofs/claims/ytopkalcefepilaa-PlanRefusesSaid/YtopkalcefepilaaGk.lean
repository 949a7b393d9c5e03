/- Walks that follow mirrors: Gk. Printed by mx.py. -/
import Derived.Test.YtopkalcefepilaaGd
import Derived.Test.YtopkalcefepilaaZd
set_option linter.unusedVariables false
set_option linter.unusedSimpArgs false
set_option maxRecDepth 100000
set_option maxHeartbeats 2000000
namespace Go.Proofs.Ytopkalcefepilaa.Mx
open Go Go.RowKit Go.Sx
theorem zv_158 : ZV Try.prog 158 (.agg [.int .i64 0, .int .i64 0, .int .i64 0, .int .i64 0, .int .i64 0].toArray) := fun _ => by kernel_rfl
theorem ba_158 : BA Try.prog 158 1 [.int .i64 0, .int .i64 0, .int .i64 0, .int .i64 0, .int .i64 0] := ⟨_, _, Try.underlying158, (one_3).siz, zv_158⟩
theorem agg_158 : Agg Try.prog 158 5 := fun _ => ⟨by kernel_rfl, by kernel_rfl⟩
theorem eqc_158 : EqC Try.prog 2 158 [.i .i64, .i .i64, .i .i64, .i .i64, .i .i64] := eqc_array (ks := [.i .i64]) Try.underlying158 (infoE (by kernel_rfl)).choose_spec (by kernel_rfl) agg_158 eqc_3
theorem eqt_158 : EqT Try.prog 158 [.i .i64, .i .i64, .i .i64, .i .i64, .i .i64] := ⟨by kernel_rfl, agg_158, 2, by decide, eqc_158⟩
theorem en_35 : En Try.prog 35 := fun _ _ => by kernel_rfl
theorem en_73 : En Try.prog 73 := fun _ _ => by kernel_rfl
theorem en_72 : En Try.prog 72 := fun _ _ => by kernel_rfl
theorem en_71 : En Try.prog 71 := fun _ _ => by kernel_rfl
theorem plan_agrees_w {p0 p1 p2 vp1_7 zp1_7 gp1_7 op1_7 vp2_7 zp2_7 gp2_7 op2_7 r} (hm : plan_agrees p0 p1 p2 = some r) {w : World} (hp1_7 : Rd w zp1_7 gp1_7 op1_7 1 vp1_7 (p1.Witness.map ic)) (hp2_7 : Rd w zp2_7 gp2_7 op2_7 1 vp2_7 (p2.Witness.map ic)) :
    Calls Try.prog 73 [.agg (TNeed.cs p0).toArray, .agg (TChoice.cs p1 vp1_7).toArray, .agg (TChoice.cs p2 vp2_7).toArray].toArray w fun e w' => ∃ v, e = .returned v ∧ (v = .bool r ∧ Gr w w') := by
 have lt1 := hp1_7.lth
 have lt2 := hp2_7.lth
 unfold plan_agrees at hm
 refine calls_of_sw 91 Try.func73 rfl rfl rfl<|qs 4 rfl<|qe rfl (ev_box (cs := TNeed.cs p0) rfl rfl) ?_
 rintro _ w1 ⟨b1, rfl, hbw1, Bw1, G1⟩
 have z3 := G1.size
 have lt4 := Bw1.lt
 refine qe rfl (ev_box (cs := TChoice.cs p1 vp1_7) rfl rfl) ?_
 rintro _ w2 ⟨b2, rfl, hbw2, Bw2, G2⟩
 have z5 := G2.size
 have lt6 := Bw2.lt
 refine qe rfl (ev_box (cs := TChoice.cs p2 vp2_7) rfl rfl) ?_
 rintro _ w3 ⟨b3, rfl, hbw3, Bw3, G3⟩
 have z7 := G3.size
 have lt8 := Bw3.lt
 refine qm rfl<|qd 3 rfl<|qv rfl (vv_fieldAddr fa_52_7 rfl) ?_
 have B9 := (Bw2.gr G3)
 refine qv rfl (vv_load1 (v := vp1_7) one_32 rfl B9 rfl)<|qm rfl<|qd 4 rfl<|qv rfl (vv_fieldAddr fa_52_7 rfl)<|qe rfl (ev_st1 (cs' := TChoice.cs (TChoice.mk p1.Kind p1.Fits p1.Items p1.Points p1.Header p1.Storage p1.Cost []) (.slice none 0 0)) (one_32).siz rfl rfl rfl B9 rfl rfl) ?_
 rintro _ w4 ⟨Bw4, M4⟩
 have z10 := M4.size
 refine qv rfl (vv_fieldAddr fa_52_7 rfl) ?_
 have B11 := (Bw3.md M4)
 refine qe rfl (ev_st1 (cs' := TChoice.cs (TChoice.mk p2.Kind p2.Fits p2.Items p2.Points p2.Header p2.Storage p2.Cost []) (.slice none 0 0)) (one_32).siz rfl rfl rfl B11 rfl rfl) ?_
 rintro _ w5 ⟨Bw5, M5⟩
 have z12 := M5.size
 refine sd_done ?_
 have Y1 := Gr.trans (Gr.trans G1 G2) G3
 have X13 := ((((Gr.refl w).trans Y1).md M4).md M5)
 refine qj (β := Bool) ([8] ++ rg 15 37) (fun a1 => [(8, .bool a1)]) (fun a1 wr => (plan_agrees_J1 p0 p1 a1 = some r) ∧ Kz [] w5 wr) ?_ ?_
 · refine qg 38 rfl<|qv rfl (vv_fieldAddr fa_52_0 rfl) ?_
   have B34 := (Bw4.md M5)
   refine qv rfl (vv_load1 (v := bv p1.Kind) one_5 rfl B34 rfl)<|qv rfl (vv_fieldAddr fa_52_0 rfl)<|qv rfl (vv_load1 (v := bv p2.Kind) one_5 rfl Bw5 rfl)<|qv rfl (vv_eqlB (p := p1.Kind) (q := p2.Kind) rfl rfl)<|qpF rfl (vv_move rfl) (fun c6 => ?_) (fun c6 => ?_)
   · replace hm := iF c6 hm
     refine qk rfl<|qk rfl<|qk rfl<|qk rfl<|qk rfl<|qm rfl<|qm rfl ?_
     refine qk rfl<|qk rfl<|qk rfl<|qk rfl<|qk rfl<|qk rfl<|qk rfl ?_
     refine qk rfl<|qk rfl<|qk rfl<|qk rfl<|qk rfl<|qk rfl<|qk rfl ?_
     refine qk rfl<|qk rfl<|qk rfl<|qk rfl<|qk rfl<|qk rfl<|qk rfl ?_
     refine qk rfl<|qk rfl<|qm rfl<|qm rfl<|sd_nil ?_
     exact ⟨rfl, false, sbq, hm, kz0⟩
   replace hm := iT c6 hm
   refine qv rfl (vv_fieldAddr fa_52_1 rfl)<|qv rfl (vv_load1 (v := .bool p1.Fits) one_4 rfl B34 rfl)<|qv rfl (vv_fieldAddr fa_52_1 rfl)<|qv rfl (vv_load1 (v := .bool p2.Fits) one_4 rfl Bw5 rfl)<|qv rfl (vv_eqlL Try.underlying4 rfl rfl)<|qm rfl<|qpF rfl (vv_move rfl) (fun c7 => ?_) (fun c7 => ?_)
   · replace hm := cnd_f c7 hm
     refine qk rfl<|qk rfl<|qk rfl<|qk rfl<|qk rfl<|qk rfl<|qk rfl ?_
     refine qk rfl<|qk rfl<|qk rfl<|qk rfl<|qk rfl<|qk rfl<|qk rfl ?_
     refine qk rfl<|qk rfl<|qk rfl<|qk rfl<|qk rfl<|qk rfl<|qk rfl ?_
     refine qk rfl<|qk rfl<|qm rfl<|qm rfl<|sd_nil ?_
     exact ⟨rfl, false, sbq, hm, kz0⟩
   replace hm := cnd_t c7 hm
   refine qv rfl (vv_fieldAddr fa_52_2 rfl)<|qv rfl (vv_load1 (v := .int .i64 p1.Items) one_3 rfl B34 rfl)<|qv rfl (vv_fieldAddr fa_52_3 rfl)<|qv rfl (vv_load1 (v := .int .i64 p1.Points) one_3 rfl B34 rfl)<|qv rfl (vv_fieldAddr fa_52_4 rfl)<|qv rfl (vv_load1 (v := .int .i64 p1.Header) one_3 rfl B34 rfl)<|qv rfl (vv_fieldAddr fa_52_5 rfl) ?_
   refine qv rfl (vv_load1 (v := .int .i64 p1.Storage) one_3 rfl B34 rfl)<|qv rfl (vv_fieldAddr fa_52_6 rfl)<|qv rfl (vv_load1 (v := .int .i64 p1.Cost) one_3 rfl B34 rfl)<|qv rfl (vv_buildA (cs := TA5_i64.cs (TA5_i64.mk p1.Items p1.Points p1.Header p1.Storage p1.Cost)) ba_158 rfl rfl)<|qv rfl (vv_fieldAddr fa_52_2 rfl)<|qv rfl (vv_load1 (v := .int .i64 p2.Items) one_3 rfl Bw5 rfl)<|qv rfl (vv_fieldAddr fa_52_3 rfl) ?_
   refine qv rfl (vv_load1 (v := .int .i64 p2.Points) one_3 rfl Bw5 rfl)<|qv rfl (vv_fieldAddr fa_52_4 rfl)<|qv rfl (vv_load1 (v := .int .i64 p2.Header) one_3 rfl Bw5 rfl)<|qv rfl (vv_fieldAddr fa_52_5 rfl)<|qv rfl (vv_load1 (v := .int .i64 p2.Storage) one_3 rfl Bw5 rfl)<|qv rfl (vv_fieldAddr fa_52_6 rfl)<|qv rfl (vv_load1 (v := .int .i64 p2.Cost) one_3 rfl Bw5 rfl) ?_
   refine qv rfl (vv_buildA (cs := TA5_i64.cs (TA5_i64.mk p2.Items p2.Points p2.Header p2.Storage p2.Cost)) ba_158 rfl rfl)<|qv rfl (vv_eqlS (cf := TA5_i64.cs) (a := (TA5_i64.mk p1.Items p1.Points p1.Header p1.Storage p1.Cost)) (b := (TA5_i64.mk p2.Items p2.Points p2.Header p2.Storage p2.Cost)) eqt_158 rfl rfl rfl rfl (fun h => TA5_i64.cs_inj h))<|qm rfl<|qm rfl<|sd_nil ?_
   exact ⟨rfl, (decide ((TA5_i64.mk p1.Items p1.Points p1.Header p1.Storage p1.Cost) = (TA5_i64.mk p2.Items p2.Points p2.Header p2.Storage p2.Cost))), sbq, hm, kz0⟩
 clear hm; rintro a1 w6 ⟨hm, K6⟩
 have z14 := K6.size
 unfold plan_agrees_J1 at hm
 refine sw_seq ?_
 have X15 := (X13.kz K6)
 refine qj (β := Bool) (rg 52 7) (fun a2 => [(58, .bool a2)]) (fun a2 wr => (plan_agrees_J2 p0 p1 a1 a2 = some r) ∧ Kz [] w6 wr) ?_ ?_
 · refine qg 7 rfl<|qm rfl<|qv rfl (vv_not rfl)<|qp rfl (vv_move rfl) (fun c5 => ?_) (fun c5 => ?_)
   · replace hm := cnd_t c5 hm
     refine qk rfl<|qk rfl<|qk rfl<|qm rfl<|sd_nil ?_
     exact ⟨rfl, true, sbq, hm, kz0⟩
   replace hm := cnd_f c5 hm
   refine qv rfl (vv_fieldAddr fa_52_0 rfl) ?_
   have B32 := ((Bw4.md M5).kz K6)
   refine qv rfl (vv_load1 (v := bv p1.Kind) one_5 rfl B32 rfl)<|qv rfl (vv_eqlB (p := p1.Kind) (q := 4#8) rfl rfl)<|qm rfl<|sd_nil ?_
   exact ⟨rfl, (decide (p1.Kind = 4#8)), sbq, hm, kz0⟩
 clear hm; rintro a2 w7 ⟨hm, K7⟩
 have z16 := K7.size
 unfold plan_agrees_J2 at hm
 refine sw_cond rfl (fun c1 => ?_) (fun c1 => ?_)
 · replace hm := cnd_t c1 hm
   refine qs 7 rfl<|qm rfl<|qpF rfl (vv_move rfl) (fun c2 => ?_) (fun c2 => ?_)
   · replace hm := cnd_f c2 hm
     refine qk rfl<|qk rfl<|qk rfl<|qm rfl<|qm rfl<|sd_done<|sw_ret ?_
     refine then_r ?_
     have X19 := (X15.kz K7)
     cases hm
     refine ⟨_, _, rfl, res_1 rfl (rv_tmp rfl), ?_⟩
     exact ⟨rfl, X19⟩
   replace hm := cnd_t c2 hm
   refine qm rfl ?_
   have B17 := (((((hp1_7.gr Y1).md M4 (pb_lt lt1)).md M5 (pb_lt lt1)).kz K6).kz K7)
   refine qv rfl (vv_lenT (l := p1.Witness) (c := ic) Try.underlying32 rfl B17)<|qv rfl (vv_eql (a := (p1.Witness.length : Int)) (b := 0) rfl rfl)<|qm rfl<|qm rfl<|sd_done<|sw_ret<|then_r ?_
   have X18 := (X15.kz K7)
   cases hm
   refine ⟨_, _, rfl, res_1 rfl (rv_tmp rfl), ?_⟩
   exact ⟨rfl, X18⟩
 replace hm := cnd_f c1 hm
 refine qu<|qs 12 rfl<|qv rfl (vv_fieldAddr fa_52_0 rfl) ?_
 have B20 := (((Bw4.md M5).kz K6).kz K7)
 refine qv rfl (vv_load1 (v := bv p1.Kind) one_5 rfl B20 rfl)<|qv rfl (vv_fieldAddr fa_50_0 rfl) ?_
 have Y2 := Gr.trans G2 G3
 have B21 := (((((Bw1.gr Y2).md M4).md M5).kz K6).kz K7)
 refine qv rfl (vv_load1 (v := .int .i64 p0.Depth) one_3 rfl B21 rfl)<|qv rfl (vv_build (cs := TScheme.cs (TScheme.mk p1.Kind p0.Depth 0 (TGroup.mk 0#64 0#64 0#64))) bs_26 rfl rfl)<|qm rfl ?_
 have B22 := (((((hp1_7.gr Y1).md M4 (pb_lt lt1)).md M5 (pb_lt lt1)).kz K6).kz K7)
 obtain ⟨x3, hx3, hm⟩ := bnd hm
 refine qe rfl (eC en_35 rfl (cover_Cover_w hx3 B22)) ?_
 rintro _ w8 ⟨u8_r0_s, z8_r0_s, g8_r0_s, rfl, O8_r0_s, f8_r0_s, G8⟩
 have z23 := G8.size
 have lt24 := O8_r0_s.lth
 refine qm rfl<|qm rfl<|qm rfl<|qm rfl<|qm rfl<|sd_done<|sw_seq ?_
 refine qg 17 rfl<|qm rfl<|qv rfl (vv_eql (a := x3.2) (b := 0) rfl rfl)<|qpF rfl (vv_move rfl) (fun c3 => ?_) (fun c3 => ?_)
 · replace hm := iF c3 hm
   refine qk rfl<|qk rfl<|qk rfl<|qk rfl<|qk rfl<|qm rfl<|qm rfl ?_
   refine qk rfl<|qk rfl<|qk rfl<|qk rfl<|qk rfl<|qm rfl<|qm rfl ?_
   refine sd_done<|sw_ret ?_
   have X30 := ((X15.kz K7).trans G8)
   cases hm
   refine ⟨_, _, rfl, res_1 rfl (rv_tmp rfl), ?_⟩
   exact ⟨rfl, X30⟩
 replace hm := iT c3 hm
 refine qm rfl ?_
 have B25 := (B22.gr G8)
 refine qv rfl (vv_lenT (l := p1.Witness) (c := ic) Try.underlying32 rfl B25)<|qv rfl (vv_fieldAddr fa_50_1 rfl) ?_
 have B26 := (B21.gr G8)
 refine qv rfl (vv_load1 (v := .int .i64 p0.Revoked) one_3 rfl B26 rfl)<|qv rfl (vv_leq (a := (p1.Witness.length : Int)) (b := p0.Revoked) rfl rfl)<|qm rfl<|qpF rfl (vv_move rfl) (fun c4 => ?_) (fun c4 => ?_)
 · replace hm := iF c4 hm
   refine qk rfl<|qk rfl<|qk rfl<|qk rfl<|qk rfl<|qm rfl<|qm rfl ?_
   refine sd_done<|sw_ret ?_
   have X29 := ((X15.kz K7).trans G8)
   cases hm
   refine ⟨_, _, rfl, res_1 rfl (rv_tmp rfl), ?_⟩
   exact ⟨rfl, X29⟩
 replace hm := iT c4 hm
 refine qm rfl<|qv rfl (vv_lenT (l := x3.1) (c := TSubset.cs) Try.underlying74 rfl (Own.rd O8_r0_s))<|qv rfl (vv_fieldAddr fa_52_2 rfl) ?_
 have B27 := (B20.gr G8)
 refine qv rfl (vv_load1 (v := .int .i64 p1.Items) one_3 rfl B27 rfl)<|qv rfl (vv_eql (a := (x3.1.length : Int)) (b := p1.Items) rfl rfl)<|qm rfl<|qm rfl<|sd_done<|sw_ret ?_
 have X28 := ((X15.kz K7).trans G8)
 cases hm
 refine ⟨_, _, rfl, res_1 rfl (rv_tmp rfl), ?_⟩
 exact ⟨rfl, X28⟩
theorem plan_Check_1_w {p0 p1 p2 vp0_7 zp0_7 gp0_7 op0_7 vp1_7 zp1_7 gp1_7 op1_7 bp2 r} (hm : plan_Check_1 p0 p1 p2 = some r) {w : World} (hp0_7 : Rd w zp0_7 gp0_7 op0_7 1 vp0_7 (p0.Witness.map ic)) (hp1_7 : Rd w zp1_7 gp1_7 op1_7 1 vp1_7 (p1.Witness.map ic)) (hbp2 : Bx w bp2 50 (TNeed.cs p2)) :
    Calls Try.prog 72 [.agg (TChoice.cs p0 vp0_7).toArray, .agg (TChoice.cs p1 vp1_7).toArray, .pointer (some ⟨bp2, 0, none⟩)].toArray w fun e w' => ∃ v, e = .returned v ∧ (v = .bool r ∧ Gr w w') := by
 have lt1 := hp0_7.lth
 have lt2 := hp1_7.lth
 have lt3 := hbp2.lt
 unfold plan_Check_1 at hm
 refine calls_of_sw 10 Try.func72 rfl rfl rfl<|qs 3 rfl<|qe rfl (ev_box (cs := TChoice.cs p0 vp0_7) rfl rfl) ?_
 rintro _ w1 ⟨b1, rfl, hbw1, Bw1, G1⟩
 have z4 := G1.size
 have lt5 := Bw1.lt
 refine qe rfl (ev_box (cs := TChoice.cs p1 vp1_7) rfl rfl) ?_
 rintro _ w2 ⟨b2, rfl, hbw2, Bw2, G2⟩
 have z6 := G2.size
 have lt7 := Bw2.lt
 refine qm rfl<|qd 5 rfl ?_
 have Y1 := Gr.trans G1 G2
 have B8 := (hbp2.gr Y1)
 refine qv rfl (vv_loadW agg_50 rfl B8 rfl) ?_
 have B9 := (Bw1.gr G2)
 refine qv rfl (vv_loadW agg_52 rfl B9 rfl)<|qv rfl (vv_loadW agg_52 rfl Bw2 rfl) ?_
 have B10 := (hp0_7.gr Y1)
 have B11 := (hp1_7.gr Y1)
 obtain ⟨x1, hx1, hm⟩ := bnd hm
 refine qe rfl (eC en_73 rfl (plan_agrees_w hx1 B10 B11)) ?_
 rintro _ w3 ⟨rfl, G3⟩
 have z12 := G3.size
 refine qm rfl<|sd_done<|sw_ret ?_
 have X13 := (((Gr.refl w).trans Y1).trans G3)
 cases hm
 refine ⟨_, _, rfl, res_1 rfl (rv_tmp rfl), ?_⟩
 exact ⟨rfl, X13⟩
theorem slices_EqualFunc_ff82_plan_Check_1_w {p0 p1 p2_0 vp0 zp0 gp0 op0 Fp0 vp1 zp1 gp1 op1 Fp1 bp2_0 r} (hm : slices_EqualFunc_ff82_plan_Check_1 p0 p1 p2_0 = some r) {w : World} (hp0 : RdD rp_52 w zp0 gp0 op0 vp0 Fp0 p0) (hp1 : RdD rp_52 w zp1 gp1 op1 vp1 Fp1 p1) (hbp2_0 : Bx w bp2_0 50 (TNeed.cs p2_0)) :
    Calls Try.prog 71 [vp0, vp1, .func (.func 72) [].toArray [.pointer (some ⟨bp2_0, 0, none⟩)].toArray].toArray w fun e w' => ∃ v, e = .returned v ∧ (v = .bool r ∧ Gr w w') := by
 have fl1 := hp0.flt
 have lt2 := hp0.lth
 have fl3 := hp1.flt
 have lt4 := hp1.lth
 have lt5 := hbp2_0.lt
 unfold slices_EqualFunc_ff82_plan_Check_1 at hm
 refine calls_of_sw 32 Try.func71 rfl rfl rfl<|qs 1 rfl<|qm rfl<|sd_done<|sw_seq<|sw_seq ?_
 refine qg 5 rfl<|qm rfl<|qv rfl (vv_lenD (l := p0) Try.underlying57 rfl hp0)<|qm rfl<|qv rfl (vv_lenD (l := p1) Try.underlying57 rfl hp1)<|qv rfl (vv_neq (a := (p0.length : Int)) (b := (p1.length : Int)) rfl rfl)<|sd_done ?_
 refine sw_cond rfl (fun c1 => ?_) (fun c1 => ?_)
 · replace hm := iT c1 hm
   refine qs 1 rfl<|qm rfl<|qb ?_
   cases hm
   refine ⟨_, _, rfl, res_1 rfl (rv_tmp rfl), ?_⟩
   exact ⟨rfl, (Gr.refl w)⟩
 replace hm := iF c1 hm
 refine qu<|sw_seq<|qs 3 rfl<|qm rfl<|qv rfl (vv_lenD (l := p0) Try.underlying57 rfl hp0) ?_
 refine qm rfl<|sd_done<|sw_block<|sw_loopD (α := Nat × Int) ([6, 7, 8, 9] ++ rg 17 15) (fun ⟨n1, a2⟩ => [(6, .bool false), (17, .int .i64 a2)]) (fun ⟨n1, a2⟩ wr => (fixN (slices_EqualFunc_ff82_plan_Check_1_L1 p0 p1 p2_0) n1 a2 = some r) ∧ Kz [] w wr) (fun ⟨n1, a2⟩ => n1) ⟨FUEL, 0⟩ ?_ ?_ ?_
 · exact sbq
 · exact ⟨hm, Kz.refl _ _⟩
 clear hm; rintro ⟨n1, a2⟩ w1 ⟨hm, K1⟩
 have z6 := K1.size
 have hb := fix_succ hm; clear hm; obtain ⟨n1, rfl, hm⟩ := hb
 generalize hrec1 : fixN (slices_EqualFunc_ff82_plan_Check_1_L1 p0 p1 p2_0) n1 = rec1 at hm
 unfold slices_EqualFunc_ff82_plan_Check_1_L1 at hm
 try dsimp only at hm
 refine qs 1 rfl<|qv rfl (vv_lss (a := a2) (b := (p0.length : Int)) rfl rfl)<|sd_done<|sw_seq<|cnF rfl (fun c2 => ?_) (fun c2 => ?_)
 · replace hm := iF c2 hm
   refine sw_exit<|then_x<|then_x<|block_x<|then_n<|qs 1 rfl ?_
   refine qm rfl<|sd_done<|sw_ret ?_
   have X28 := ((Gr.refl w).kz K1)
   cases hm
   refine ⟨_, _, rfl, res_1 rfl (rv_tmp rfl), ?_⟩
   exact ⟨rfl, X28⟩
 replace hm := iT c2 hm
 refine qu<|sw_seq<|sw_block<|qs 6 rfl<|qm rfl ?_
 obtain ⟨y3, hy3, hm⟩ := bnd hm
 have B7 := (hp0.kz K1 tk0 (fun x hx => tk0))
 refine qv rfl (vv_ixD (i := a2) Try.underlying57 (agg_52).siz rfl B7 rfl hy3) ?_
 obtain ⟨lg8, x8_, z8_, g8_, o8_, R8, gx8, Q8, pf8⟩ := atSt B7 hy3
 have lt9 := Q8.lth
 refine qv rfl (vv_elWT (c := (fun p => TChoice.cs p.1 p.2)) agg_52 rfl R8 gx8 (by first | rfl | omega))<|qe rfl (ev_alloc (cs := TChoice.cs (TChoice.mk 0#8 false 0 0 0 0 0 []) (.slice none 0 0)) zv_52 rfl) ?_
 rintro _ w2 ⟨b2, rfl, hbw2, Bw2, G2⟩
 have z10 := G2.size
 have lt11 := Bw2.lt
 refine qm rfl ?_
 have B12 := (Q8.gr G2)
 refine qe rfl (ev_stW agg_52 rfl rfl (TChoice.cs_ones _ _ (Rd.oneB B12)) Bw2 rfl rfl) ?_
 rintro _ w3 ⟨Bw3, M3⟩
 have z13 := M3.size
 refine qd 6 rfl<|qm rfl<|qm rfl ?_
 obtain ⟨y4, hy4, hm⟩ := bnd hm
 have B14 := (((hp1.kz K1 tk0 (fun x hx => tk0)).gr G2).md M3 (tk1 (pb_lt (b := b2) lt4)) (fun x hx => .inr (by have := fl3 x hx; omega)))
 refine qv rfl (vv_ixD (i := a2) Try.underlying57 (agg_52).siz rfl B14 rfl hy4) ?_
 obtain ⟨lg15, x15_, z15_, g15_, o15_, R15, gx15, Q15, pf15⟩ := atSt B14 hy4
 have lt16 := Q15.lth
 refine qv rfl (vv_elWT (c := (fun p => TChoice.cs p.1 p.2)) agg_52 rfl R15 gx15 (by first | rfl | omega))<|qe rfl (ev_alloc (cs := TChoice.cs (TChoice.mk 0#8 false 0 0 0 0 0 []) (.slice none 0 0)) zv_52 rfl) ?_
 rintro _ w4 ⟨b4, rfl, hbw4, Bw4, G4⟩
 have z17 := G4.size
 have lt18 := Bw4.lt
 have B19 := (Q15.gr G4)
 refine qe rfl (ev_stW agg_52 rfl rfl (TChoice.cs_ones _ _ (Rd.oneB B19)) Bw4 rfl rfl) ?_
 rintro _ w5 ⟨Bw5, M5⟩
 have z20 := M5.size
 refine qd 5 rfl<|qm rfl ?_
 have B21 := ((Bw3.gr G4).md M5)
 refine qv rfl (vv_loadW agg_52 rfl B21 rfl)<|qv rfl (vv_loadW agg_52 rfl Bw5 rfl) ?_
 have B22 := (((B12.md M3 (tk1 ((fA_in1 pf8 (fun x hx => .inr (by have := fl1 x hx; omega))) : z8_ = 0 ∨ g8_ ≠ b2))).gr G4).md M5 (tk1 ((fA_in1 pf8 (fun x hx => .inr (by have := fl1 x hx; omega))) : z8_ = 0 ∨ g8_ ≠ b4)))
 have B23 := (B19.md M5 (tk1 ((fA_in1 pf15 (fun x hx => .inr (by have := fl3 x hx; omega))) : z15_ = 0 ∨ g15_ ≠ b4)))
 have B24 := (((((hbp2_0.kz K1).gr G2).md M3).gr G4).md M5)
 obtain ⟨x5, hx5, hm⟩ := bnd hm
 refine qe rfl (ev_callV en_72 rfl rfl (plan_Check_1_w hx5 B22 B23 B24)) ?_
 rintro _ w6 ⟨rfl, G6⟩
 have z25 := G6.size
 refine qv rfl (vv_not rfl)<|sd_done<|sw_cond rfl (fun c3 => ?_) (fun c3 => ?_)
 · replace hm := cnd_t c3 hm
   refine qs 1 rfl<|qm rfl<|sd_done<|sw_ret<|block_r<|then_r ?_
   refine then_r<|block_r<|then_r ?_
   have X26 := (((((((Gr.refl w).kz K1).trans G2).md M3).trans G4).md M5).trans G6)
   cases hm
   refine ⟨_, _, rfl, res_1 rfl (rv_tmp rfl), ?_⟩
   exact ⟨rfl, X26⟩
 replace hm := cnd_f c3 hm
 refine sw_skip<|block_n<|then_n<|qg 2 rfl<|qv rfl (vv_add (k := .i64) (a := a2) (b := 1) rfl rfl)<|qm rfl<|sd_nil ?_
 have K_27 : Kz [] w w6 := (((((K1.gr G2).md M3).gr G4).md M5).gr G6)
 subst hrec1
 exact ⟨rfl, ⟨n1, w64 (a2 + 1)⟩, sbq, ⟨hm, K_27⟩, Nat.lt_succ_self _⟩
theorem plan_Check_w {p0 p1 vp1_0 zp1_0 gp1_0 op1_0 Fp1_0 r} (hm : plan_Check p0 p1 = some r) {w : World} (hp1_0 : RdD rp_52 w zp1_0 gp1_0 op1_0 vp1_0 Fp1_0 p1.Choices) :
    Calls Try.prog 36 [.agg (TNeed.cs p0).toArray, .agg (TPlan.cs p1 vp1_0).toArray].toArray w fun e w' => ∃ v, e = .returned v ∧ (v = .int .i64 r ∧ Gr w w') := by
 have fl1 := hp1_0.flt
 have lt2 := hp1_0.lth
 unfold plan_Check at hm
 refine calls_of_sw 29 Try.func36 rfl rfl rfl<|qs 3 rfl<|qe rfl (ev_box (cs := TNeed.cs p0) rfl rfl) ?_
 rintro _ w1 ⟨b1, rfl, hbw1, Bw1, G1⟩
 have z3 := G1.size
 have lt4 := Bw1.lt
 refine qe rfl (ev_box (cs := TPlan.cs p1 vp1_0) rfl rfl) ?_
 rintro _ w2 ⟨b2, rfl, hbw2, Bw2, G2⟩
 have z5 := G2.size
 have lt6 := Bw2.lt
 refine qm rfl<|qd 8 rfl ?_
 have B7 := (Bw1.gr G2)
 refine qv rfl (vv_loadW agg_50 rfl B7 rfl) ?_
 obtain ⟨x1, hx1, hm⟩ := bnd hm
 refine qe rfl (eC en_27 rfl (plan_Make_w hx1)) ?_
 rintro _ w3 ⟨u3_r0_0, z3_r0_0, g3_r0_0, F3_r0_0, rfl, O3_r0_0, f3_r0_0, p3_r0_0, G3⟩
 have z8 := G3.size
 have fl9 := O3_r0_0.flt
 have lt10 := O3_r0_0.lth
 refine qm rfl<|qm rfl<|qm rfl<|qe rfl (ev_alloc (cs := TPlan.cs (TPlan.mk [] 0#8) (.slice none 0 0)) zv_59 rfl) ?_
 rintro _ w4 ⟨b4, rfl, hbw4, Bw4, G4⟩
 have z11 := G4.size
 have lt12 := Bw4.lt
 have B13 := (O3_r0_0.gr G4)
 refine qe rfl (ev_stW agg_59 rfl rfl (TPlan.cs_ones _ _ (OwnD.oneB B13)) Bw4 rfl rfl) ?_
 rintro _ w5 ⟨Bw5, M5⟩
 have z14 := M5.size
 refine qm rfl<|sd_done<|sw_seq<|qs 2 rfl<|qm rfl<|qv rfl (vv_neq (a := x1.2) (b := 0) rfl rfl) ?_
 refine sd_done<|sw_cond rfl (fun c1 => ?_) (fun c1 => ?_)
 · replace hm := iT c1 hm
   refine qs 2 rfl<|qm rfl<|qm rfl<|sd_done<|sw_ret<|then_r ?_
   have Y1 := Gr.trans (Gr.trans (Gr.trans G1 G2) G3) G4
   have X15 := (((Gr.refl w).trans Y1).md M5)
   cases hm
   refine ⟨_, _, rfl, res_1 rfl (rv_tmp rfl), ?_⟩
   exact ⟨rfl, X15⟩
 replace hm := iF c1 hm
 refine qu<|sw_seq ?_
 have Y2 := Gr.trans (Gr.trans (Gr.trans G1 G2) G3) G4
 have X16 := (((Gr.refl w).trans Y2).md M5)
 refine qj (β := Bool) (rg 15 14) (fun a2 => [(28, .bool a2)]) (fun a2 wr => (plan_Check_J1 a2 = some r) ∧ Kz [] w5 wr) ?_ ?_
 · refine qg 14 rfl<|qv rfl (vv_fieldAddr fa_59_1 rfl) ?_
   have Y3 := Gr.trans G3 G4
   have B20 := ((Bw2.gr Y3).md M5)
   refine qv rfl (vv_load1 (v := bv p1.Best) one_5 rfl B20 rfl)<|qv rfl (vv_fieldAddr fa_59_1 rfl)<|qv rfl (vv_load1 (v := bv x1.1.Best) one_5 rfl Bw5 rfl)<|qv rfl (vv_neqB (p := p1.Best) (q := x1.1.Best) rfl rfl)<|qp rfl (vv_move rfl) (fun c3 => ?_) (fun c3 => ?_)
   · replace hm := iT c3 hm
     refine qk rfl<|qk rfl<|qk rfl<|qk rfl<|qk rfl<|qk rfl<|qk rfl ?_
     refine qm rfl<|sd_nil ?_
     exact ⟨rfl, true, sbq, hm, kz0⟩
   replace hm := iF c3 hm
   refine qv rfl (vv_fieldAddr fa_59_0 rfl)<|qv rfl (vv_load1 (v := vp1_0) one_57 rfl B20 rfl)<|qv rfl (vv_fieldAddr fa_59_0 rfl)<|qv rfl (vv_load1 (v := u3_r0_0) one_57 rfl Bw5 rfl)<|qv rfl (vv_makeFunc rfl rfl) ?_
   have B22 := ((hp1_0.gr Y2).md M5 (tk1 (pb_lt (b := b4) lt2)) (fun x hx => .inr (by have := fl1 x hx; omega)))
   have B23 := (B13.md M5 (tk1 (pb_lt (b := b4) lt10)) (fun x hx => .inr (by have := fl9 x hx; omega)))
   have B24 := ((B7.gr Y3).md M5)
   obtain ⟨x3, hx3, hm⟩ := bnd hm
   refine qe rfl (eC en_71 rfl (slices_EqualFunc_ff82_plan_Check_1_w hx3 B22 (OwnD.rd B23) B24)) ?_
   rintro _ w7 ⟨rfl, G7⟩
   have z25 := G7.size
   refine qv rfl (vv_not rfl)<|qm rfl<|sd_nil ?_
   exact ⟨rfl, (!x3), sbq, hm, (kz0.gr G7)⟩
 clear hm; rintro a2 w6 ⟨hm, K6⟩
 have z17 := K6.size
 unfold plan_Check_J1 at hm
 refine sw_cond rfl (fun c2 => ?_) (fun c2 => ?_)
 · replace hm := cnd_t c2 hm
   refine qs 1 rfl<|qm rfl<|qb ?_
   have X18 := (X16.kz K6)
   cases hm
   refine ⟨_, _, rfl, res_1 rfl (rv_tmp rfl), ?_⟩
   exact ⟨rfl, X18⟩
 replace hm := cnd_f c2 hm
 refine qu<|qs 1 rfl<|qm rfl<|sd_done<|sw_ret ?_
 have X19 := (X16.kz K6)
 cases hm
 refine ⟨_, _, rfl, res_1 rfl (rv_tmp rfl), ?_⟩
 exact ⟨rfl, X19⟩
end Go.Proofs.Ytopkalcefepilaa.Mx
