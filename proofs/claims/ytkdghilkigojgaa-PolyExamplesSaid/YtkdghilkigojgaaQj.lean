/- Walks that follow mirrors: Qj. Printed by mx.py. -/
import Derived.Test.YtkdghilkigojgaaXw
import Derived.Test.YtkdghilkigojgaaQjM
set_option linter.unusedVariables false
set_option linter.unusedSimpArgs false
set_option maxRecDepth 100000
namespace Go.Proofs.Ytkdghilkigojgaa.Mx
open Go Go.RowKit Go.Sx
theorem en_49 : En Try.prog 49 := fun _ _ => by kernel_rfl
theorem bsl_43_2 : BSl Try.prog 43 2 31 2 [.int .u64 0, .int .u64 0, .int .u64 0, .int .u64 0] := bsl_mk Try.underlying43 (agg_31).siz zv_31 rfl rfl (by kernel_rfl)
theorem bsl_41_3 : BSl Try.prog 41 3 3 1 [.int .i64 0, .int .i64 0, .int .i64 0] := bsl_mk Try.underlying41 (one_3).siz zv_3 rfl rfl (by kernel_rfl)

set_option maxHeartbeats 16000000 in
theorem law04_PolyExamples_w   (r : Bool) (hm : law04_PolyExamples = some r) (w : World)   :
    Calls Try.prog 8 [].toArray w fun e w' => ∃ v, e = .returned v ∧ (v = .bool r ∧ Gr w w') := by
  unfold law04_PolyExamples at hm
  refine calls_of_sw (R := fun v w' => v = .bool r ∧ Gr w w') 272 Try.func8 rfl rfl rfl ?_
  refine sw_seq ?_
  -- region 0 outright.go:74
  refine sw_region [(0, 0)] rfl rfl rfl ?_
  refine sd_vv rfl rfl rfl (vv_assign rfl) ?_
  refine sd_done ?_
  refine sw_seq ?_
  -- region 1 outright.go:77
  refine sw_region [(0, 0), (1, 0), (2, 0), (3, 0), (4, 0), (5, 0), (6, 0), (7, 0), (8, 0), (9, 0), (10, 0), (11, 0)] rfl rfl rfl ?_
  have hb := bnd hm; clear hm; obtain ⟨x1, hx1, hm⟩ := hb
  refine sd_ev rfl rfl rfl (ev_call en_48 rfl (law04_small_w _ hx1 _)) ?_
  rintro _ w1 ⟨rfl, Gw1⟩
  have z1 := Gw1.size
  have hb := bnd hm; clear hm; obtain ⟨x2, hx2, hm⟩ := hb
  refine sd_ev rfl rfl rfl (ev_call en_48 rfl (law04_small_w _ hx2 _)) ?_
  rintro _ w2 ⟨rfl, Gw2⟩
  have z2 := Gw2.size
  have hb := bnd hm; clear hm; obtain ⟨x3, hx3, hm⟩ := hb
  refine sd_ev rfl rfl rfl (ev_call en_48 rfl (law04_small_w _ hx3 _)) ?_
  rintro _ w3 ⟨rfl, Gw3⟩
  have z3 := Gw3.size
  have hb := bnd hm; clear hm; obtain ⟨x4, hx4, hm⟩ := hb
  refine sd_ev rfl rfl rfl (ev_call en_48 rfl (law04_small_w _ hx4 _)) ?_
  rintro _ w4 ⟨rfl, Gw4⟩
  have z4 := Gw4.size
  refine sd_ev rfl rfl rfl (ev_alloc (cs := TScheme.cs (TScheme.mk 0#8 0 0 (TGroup.mk 0#64 0#64 0#64))) zv_28 rfl) ?_
  rintro _ w5 ⟨b5, rfl, hbw5, Bw5, Gw5⟩
  have z5 := Gw5.size
  have lt6 := Bw5.lt
  refine sd_ev rfl rfl rfl (ev_alloc (cs := TScheme.cs (TScheme.mk 0#8 0 0 (TGroup.mk 0#64 0#64 0#64))) zv_28 rfl) ?_
  rintro _ w6 ⟨b6, rfl, hbw6, Bw6, Gw6⟩
  have z7 := Gw6.size
  have lt8 := Bw6.lt
  refine sd_ev rfl rfl rfl (ev_alloc (cs := TScheme.cs (TScheme.mk 0#8 0 0 (TGroup.mk 0#64 0#64 0#64))) zv_28 rfl) ?_
  rintro _ w7 ⟨b7, rfl, hbw7, Bw7, Gw7⟩
  have z9 := Gw7.size
  have lt10 := Bw7.lt
  refine sd_ev rfl rfl rfl (ev_alloc (cs := TScheme.cs (TScheme.mk 0#8 0 0 (TGroup.mk 0#64 0#64 0#64))) zv_28 rfl) ?_
  rintro _ w8 ⟨b8, rfl, hbw8, Bw8, Gw8⟩
  have z11 := Gw8.size
  have lt12 := Bw8.lt
  have B13 := (Bx.gr (Bx.gr (Bx.gr Bw5 Gw6) Gw7) Gw8)
  refine sd_ev rfl rfl rfl (ev_stM (cs' := TScheme.cs x1) (vs := TScheme.cs x1) (agg_28).siz rfl rfl rfl rfl rfl B13 rfl rfl) ?_
  rintro _ w9 ⟨Bw9, Mw9⟩
  have z14 := Mw9.size
  have B15 := (Bx.md (Bx.gr (Bx.gr Bw6 Gw7) Gw8) Mw9)
  refine sd_ev rfl rfl rfl (ev_stM (cs' := TScheme.cs x2) (vs := TScheme.cs x2) (agg_28).siz rfl rfl rfl rfl rfl B15 rfl rfl) ?_
  rintro _ w10 ⟨Bw10, Mw10⟩
  have z16 := Mw10.size
  have B17 := (Bx.md (Bx.md (Bx.gr Bw7 Gw8) Mw9) Mw10)
  refine sd_ev rfl rfl rfl (ev_stM (cs' := TScheme.cs x3) (vs := TScheme.cs x3) (agg_28).siz rfl rfl rfl rfl rfl B17 rfl rfl) ?_
  rintro _ w11 ⟨Bw11, Mw11⟩
  have z18 := Mw11.size
  have B19 := (Bx.md (Bx.md (Bx.md Bw8 Mw9) Mw10) Mw11)
  refine sd_ev rfl rfl rfl (ev_stM (cs' := TScheme.cs x4) (vs := TScheme.cs x4) (agg_28).siz rfl rfl rfl rfl rfl B19 rfl rfl) ?_
  rintro _ w12 ⟨Bw12, Mw12⟩
  have z20 := Mw12.size
  refine sd_done ?_
  refine sw_seq ?_
  -- region 2 outright.go:78
  refine sw_region [(0, 0), (1, 0)] rfl rfl rfl ?_
  refine sd_vv rfl rfl rfl (vv_fieldAddr fa_28_2 rfl) ?_
  have B21 := (Bx.md (Bx.md Bw10 Mw11) Mw12)
  refine sd_ev rfl rfl rfl (ev_st1 (cs' := TScheme.cs (TScheme.mk x2.Kind x2.Depth 9 x2.Group)) (one_3).siz rfl rfl rfl B21 rfl rfl) ?_
  rintro _ w13 ⟨Bw13, Mw13⟩
  have z22 := Mw13.size
  refine sd_done ?_
  refine sw_seq ?_
  -- region 3 outright.go:79
  refine sw_region [(0, 0), (1, 0)] rfl rfl rfl ?_
  refine sd_vv rfl rfl rfl (vv_fieldAddr fa_28_1 rfl) ?_
  have B23 := (Bx.md (Bx.md Bw11 Mw12) Mw13)
  refine sd_ev rfl rfl rfl (ev_st1 (cs' := TScheme.cs (TScheme.mk x3.Kind 4 x3.Degree x3.Group)) (one_3).siz rfl rfl rfl B23 rfl rfl) ?_
  rintro _ w14 ⟨Bw14, Mw14⟩
  have z24 := Mw14.size
  refine sd_done ?_
  refine sw_seq ?_
  -- region 4 outright.go:80
  refine sw_region [(0, 0), (1, 0), (2, 0)] rfl rfl rfl ?_
  refine sd_vv rfl rfl rfl (vv_fieldAddr fa_28_3 rfl) ?_
  refine sd_vv rfl rfl rfl (vv_fieldAddr fa_26_2 rfl) ?_
  have B25 := (Bx.md (Bx.md Bw12 Mw13) Mw14)
  refine sd_ev rfl rfl rfl (ev_st1 (cs' := TScheme.cs (TScheme.mk x4.Kind x4.Depth x4.Degree (TGroup.mk x4.Group.P x4.Group.Q 5#64))) (one_24).siz rfl rfl rfl B25 rfl rfl) ?_
  rintro _ w15 ⟨Bw15, Mw15⟩
  have z26 := Mw15.size
  refine sd_done ?_
  refine sw_seq ?_
  have X27 : Gr w w15 := (Gr.md (Gr.md (Gr.md (Gr.md (Gr.md (Gr.md (Gr.md (Gr.trans (Gr.trans (Gr.trans (Gr.trans (Gr.trans (Gr.trans (Gr.trans (Gr.trans (Gr.refl w) Gw1) Gw2) Gw3) Gw4) Gw5) Gw6) Gw7) Gw8) Mw9) Mw10) Mw11) Mw12) Mw13) Mw14) Mw15)
  refine sw_joinD (β := Bool) [32, 33, 34, 35, 36, 37, 38, 39, 40, 41, 42, 43, 44, 45, 46, 47, 48, 49, 50] (fun a5 => [(50, .bool a5)]) (fun a5 wr => (law04_PolyExamples_J1 x1 a5 = some r) ∧ Kz [] w15 wr) ?_ ?_
  · clear hm; rintro a5 w16 ⟨hm, Kw16⟩
    have z28 := Kw16.size
    unfold law04_PolyExamples_J1 at hm
    refine sw_cond rfl (fun c1 => ?_) (fun c1 => ?_)
    ·
      replace hm := cnd_t c1 hm
      refine sw_seq ?_
      -- region 6 outright.go:82
      refine sw_region [(0, 0)] rfl rfl rfl ?_
      refine sd_vv rfl rfl rfl (vv_assign rfl) ?_
      refine sd_done ?_
      refine sw_ret ?_
      refine then_r ?_
      have X29 : Gr w w16 := (Gr.kz X27 Kw16)
      have hr := Option.some.inj hm
      subst hr
      refine ⟨_, _, rfl, res_1 rfl (rv_tmp rfl), ?_⟩
      exact ⟨rfl, X29⟩
    ·
      replace hm := cnd_f c1 hm
      refine sw_skip ?_
      refine then_n ?_
      refine sw_seq ?_
      -- region 7 outright.go:84
      refine sw_region [(0, 0), (1, 0), (2, 0), (3, 0), (4, 0), (5, 0), (6, 0), (7, 0)] rfl rfl rfl ?_
      have B30 := (Bx.kz (Bx.md (Bx.md (Bx.md (Bx.md (Bx.md (Bx.md Bw9 Mw10) Mw11) Mw12) Mw13) Mw14) Mw15) Kw16)
      refine sd_vv rfl rfl rfl (vv_loadW agg_28 rfl B30 rfl) ?_
      refine sd_ev rfl rfl rfl (ev_litT [3#64, 0#64, 2#64] uwc bsl_60_3 rfl rfl (ws_of rfl) rfl rfl rfl) ?_
      rintro vw17 w17 ⟨gw17, hbw17, Ow17, Gw17⟩
      have z31 := Gw17.size
      have lt32 := Ow17.lth
      have hb := bnd hm; clear hm; obtain ⟨x6, hx6, hm⟩ := hb
      refine sd_ev rfl rfl rfl (ev_call en_34 rfl (poly_Value_w x1 [3#64, 0#64, 2#64] 0#64 _ _ _ _ _ hx6 _ (Own.rd Ow17))) ?_
      rintro _ w18 ⟨rfl, Gw18⟩
      have z33 := Gw18.size
      refine sd_vv rfl rfl rfl (vv_move rfl) ?_
      refine sd_vv rfl rfl rfl (vv_extract rfl rfl) ?_
      refine sd_vv rfl rfl rfl (vv_extract rfl rfl) ?_
      refine sd_vv rfl rfl rfl (vv_assign rfl) ?_
      refine sd_vv rfl rfl rfl (vv_assign rfl) ?_
      refine sd_done ?_
      refine sw_seq ?_
      -- region 8 outright.go:85
      refine sw_region [(0, 0), (1, 0), (2, 0), (3, 0), (4, 0), (5, 0), (6, 0), (7, 0)] rfl rfl rfl ?_
      have B34 := (Bx.gr (Bx.gr B30 Gw17) Gw18)
      refine sd_vv rfl rfl rfl (vv_loadW agg_28 rfl B34 rfl) ?_
      refine sd_ev rfl rfl rfl (ev_litT [3#64, 0#64, 2#64] uwc bsl_60_3 rfl rfl (ws_of rfl) rfl rfl rfl) ?_
      rintro vw19 w19 ⟨gw19, hbw19, Ow19, Gw19⟩
      have z35 := Gw19.size
      have lt36 := Ow19.lth
      have hb := bnd hm; clear hm; obtain ⟨x7, hx7, hm⟩ := hb
      refine sd_ev rfl rfl rfl (ev_call en_34 rfl (poly_Value_w x1 [3#64, 0#64, 2#64] 1#64 _ _ _ _ _ hx7 _ (Own.rd Ow19))) ?_
      rintro _ w20 ⟨rfl, Gw20⟩
      have z37 := Gw20.size
      refine sd_vv rfl rfl rfl (vv_move rfl) ?_
      refine sd_vv rfl rfl rfl (vv_extract rfl rfl) ?_
      refine sd_vv rfl rfl rfl (vv_extract rfl rfl) ?_
      refine sd_vv rfl rfl rfl (vv_assign rfl) ?_
      refine sd_vv rfl rfl rfl (vv_assign rfl) ?_
      refine sd_done ?_
      refine sw_seq ?_
      -- region 9 outright.go:86
      refine sw_region [(0, 0), (1, 0), (2, 0), (3, 0), (4, 0), (5, 0), (6, 0), (7, 0)] rfl rfl rfl ?_
      have B38 := (Bx.gr (Bx.gr B34 Gw19) Gw20)
      refine sd_vv rfl rfl rfl (vv_loadW agg_28 rfl B38 rfl) ?_
      refine sd_ev rfl rfl rfl (ev_litT [3#64, 0#64, 2#64] uwc bsl_60_3 rfl rfl (ws_of rfl) rfl rfl rfl) ?_
      rintro vw21 w21 ⟨gw21, hbw21, Ow21, Gw21⟩
      have z39 := Gw21.size
      have lt40 := Ow21.lth
      have hb := bnd hm; clear hm; obtain ⟨x8, hx8, hm⟩ := hb
      refine sd_ev rfl rfl rfl (ev_call en_34 rfl (poly_Value_w x1 [3#64, 0#64, 2#64] 11#64 _ _ _ _ _ hx8 _ (Own.rd Ow21))) ?_
      rintro _ w22 ⟨rfl, Gw22⟩
      have z41 := Gw22.size
      refine sd_vv rfl rfl rfl (vv_move rfl) ?_
      refine sd_vv rfl rfl rfl (vv_extract rfl rfl) ?_
      refine sd_vv rfl rfl rfl (vv_extract rfl rfl) ?_
      refine sd_vv rfl rfl rfl (vv_assign rfl) ?_
      refine sd_vv rfl rfl rfl (vv_assign rfl) ?_
      refine sd_done ?_
      refine sw_seq ?_
      -- region 10 outright.go:87
      refine sw_region [(0, 0), (1, 0), (2, 0), (3, 0), (4, 0), (5, 0), (6, 0), (7, 0)] rfl rfl rfl ?_
      have B42 := (Bx.gr (Bx.gr B38 Gw21) Gw22)
      refine sd_vv rfl rfl rfl (vv_loadW agg_28 rfl B42 rfl) ?_
      refine sd_ev rfl rfl rfl (ev_litT [3#64, 0#64] uwc bsl_60_2 rfl rfl (ws_of rfl) rfl rfl rfl) ?_
      rintro vw23 w23 ⟨gw23, hbw23, Ow23, Gw23⟩
      have z43 := Gw23.size
      have lt44 := Ow23.lth
      have hb := bnd hm; clear hm; obtain ⟨x9, hx9, hm⟩ := hb
      refine sd_ev rfl rfl rfl (ev_call en_34 rfl (poly_Value_w x1 [3#64, 0#64] 0#64 _ _ _ _ _ hx9 _ (Own.rd Ow23))) ?_
      rintro _ w24 ⟨rfl, Gw24⟩
      have z45 := Gw24.size
      refine sd_vv rfl rfl rfl (vv_move rfl) ?_
      refine sd_vv rfl rfl rfl (vv_extract rfl rfl) ?_
      refine sd_vv rfl rfl rfl (vv_extract rfl rfl) ?_
      refine sd_vv rfl rfl rfl (vv_assign rfl) ?_
      refine sd_vv rfl rfl rfl (vv_assign rfl) ?_
      refine sd_done ?_
      refine sw_seq ?_
      have X46 : Gr w w24 := (Gr.trans (Gr.trans (Gr.trans (Gr.trans (Gr.trans (Gr.trans (Gr.trans (Gr.trans (Gr.kz X27 Kw16) Gw17) Gw18) Gw19) Gw20) Gw21) Gw22) Gw23) Gw24)
      refine sw_joinD (β := Bool) [75, 76, 77, 78, 79, 80, 81, 82, 83, 84, 85, 86, 87, 88, 89, 90, 91, 92, 93, 94, 95, 96] (fun a10 => [(96, .bool a10)]) (fun a10 wr => (law04_PolyExamples_J2 x1 a10 = some r) ∧ Kz [] w24 wr) ?_ ?_
      · clear hm; rintro a10 w25 ⟨hm, Kw25⟩
        have z47 := Kw25.size
        unfold law04_PolyExamples_J2 at hm
        refine sw_cond rfl (fun c2 => ?_) (fun c2 => ?_)
        ·
          replace hm := cnd_t c2 hm
          refine sw_seq ?_
          -- region 12 outright.go:89
          refine sw_region [(0, 0)] rfl rfl rfl ?_
          refine sd_vv rfl rfl rfl (vv_assign rfl) ?_
          refine sd_done ?_
          refine sw_ret ?_
          refine then_r ?_
          have X48 : Gr w w25 := (Gr.kz X46 Kw25)
          have hr := Option.some.inj hm
          subst hr
          refine ⟨_, _, rfl, res_1 rfl (rv_tmp rfl), ?_⟩
          exact ⟨rfl, X48⟩
        ·
          replace hm := cnd_f c2 hm
          refine sw_skip ?_
          refine then_n ?_
          refine sw_seq ?_
          -- region 13 outright.go:91
          refine sw_region [(0, 0), (1, 0), (2, 0), (3, 0), (4, 0), (5, 0), (6, 0), (7, 0), (8, 0), (9, 0)] rfl rfl rfl ?_
          have B49 := (Bx.kz (Bx.gr (Bx.gr B42 Gw23) Gw24) Kw25)
          refine sd_vv rfl rfl rfl (vv_loadW agg_28 rfl B49 rfl) ?_
          refine sd_vv rfl rfl rfl (vv_build (cs := TPoint.cs (TPoint.mk 1#64 5#64)) bs_31 rfl rfl) ?_
          refine sd_vv rfl rfl rfl (vv_build (cs := TPoint.cs (TPoint.mk 1#64 5#64)) bs_31 rfl rfl) ?_
          refine sd_vv rfl rfl rfl (vv_build (cs := TPoint.cs (TPoint.mk 0#64 3#64)) bs_31 rfl rfl) ?_
          refine sd_ev rfl rfl rfl (ev_litT [(TPoint.mk 1#64 5#64), (TPoint.mk 1#64 5#64), (TPoint.mk 0#64 3#64)] TPoint.cs bsl_43_3 rfl rfl (ws_of rfl) rfl rfl rfl) ?_
          rintro vw26 w26 ⟨gw26, hbw26, Ow26, Gw26⟩
          have z50 := Gw26.size
          have lt51 := Ow26.lth
          have hb := bnd hm; clear hm; obtain ⟨x11, hx11, hm⟩ := hb
          refine sd_ev rfl rfl rfl (ev_call en_36 rfl (poly_Interpolate_w x1 [(TPoint.mk 1#64 5#64), (TPoint.mk 1#64 5#64), (TPoint.mk 0#64 3#64)] _ _ _ _ _ hx11 _ (Own.rd Ow26))) ?_
          rintro _ w27 ⟨u27_r0_s, z27_r0_s, g27_r0_s, rfl, O27_r0_s, f27_r0_s, Gw27⟩
          have z52 := Gw27.size
          have lt53 := O27_r0_s.lth
          refine sd_vv rfl rfl rfl (vv_move rfl) ?_
          refine sd_vv rfl rfl rfl (vv_extract rfl rfl) ?_
          refine sd_vv rfl rfl rfl (vv_extract rfl rfl) ?_
          refine sd_vv rfl rfl rfl (vv_assign rfl) ?_
          refine sd_done ?_
          refine sw_seq ?_
          -- region 14 outright.go:92
          refine sw_region [(0, 0), (1, 0), (2, 0), (3, 0), (4, 0), (5, 0), (6, 0), (7, 0), (8, 0)] rfl rfl rfl ?_
          have B54 := (Bx.gr (Bx.gr B49 Gw26) Gw27)
          refine sd_vv rfl rfl rfl (vv_loadW agg_28 rfl B54 rfl) ?_
          refine sd_vv rfl rfl rfl (vv_build (cs := TPoint.cs (TPoint.mk 1#64 5#64)) bs_31 rfl rfl) ?_
          refine sd_vv rfl rfl rfl (vv_build (cs := TPoint.cs (TPoint.mk 4#64 2#64)) bs_31 rfl rfl) ?_
          refine sd_ev rfl rfl rfl (ev_litT [(TPoint.mk 1#64 5#64), (TPoint.mk 4#64 2#64)] TPoint.cs bsl_43_2 rfl rfl (ws_of rfl) rfl rfl rfl) ?_
          rintro vw28 w28 ⟨gw28, hbw28, Ow28, Gw28⟩
          have z55 := Gw28.size
          have lt56 := Ow28.lth
          have hb := bnd hm; clear hm; obtain ⟨x12, hx12, hm⟩ := hb
          refine sd_ev rfl rfl rfl (ev_call en_36 rfl (poly_Interpolate_w x1 [(TPoint.mk 1#64 5#64), (TPoint.mk 4#64 2#64)] _ _ _ _ _ hx12 _ (Own.rd Ow28))) ?_
          rintro _ w29 ⟨u29_r0_s, z29_r0_s, g29_r0_s, rfl, O29_r0_s, f29_r0_s, Gw29⟩
          have z57 := Gw29.size
          have lt58 := O29_r0_s.lth
          refine sd_vv rfl rfl rfl (vv_move rfl) ?_
          refine sd_vv rfl rfl rfl (vv_extract rfl rfl) ?_
          refine sd_vv rfl rfl rfl (vv_extract rfl rfl) ?_
          refine sd_vv rfl rfl rfl (vv_assign rfl) ?_
          refine sd_done ?_
          refine sw_seq ?_
          -- region 15 outright.go:93
          refine sw_region [(0, 0), (1, 0), (2, 0), (3, 0), (4, 0), (5, 0), (6, 0), (7, 0), (8, 0)] rfl rfl rfl ?_
          refine sd_vv rfl rfl rfl (vv_buildZ bz_23) ?_
          have B59 := (Bx.gr (Bx.gr B54 Gw28) Gw29)
          refine sd_vv rfl rfl rfl (vv_loadW agg_28 rfl B59 rfl) ?_
          have hb := bnd hm; clear hm; obtain ⟨x13, hx13, hm⟩ := hb
          refine sd_ev rfl rfl rfl (ev_call en_18 rfl (poly_Secret_w k0 x1 3 _ hx13 _)) ?_
          rintro _ w30 ⟨u30_r0_1, z30_r0_1, g30_r0_1, rfl, O30_r0_1, f30_r0_1, Gw30⟩
          have z60 := Gw30.size
          have lt61 := O30_r0_1.lth
          refine sd_vv rfl rfl rfl (vv_move rfl) ?_
          refine sd_vv rfl rfl rfl (vv_extract rfl rfl) ?_
          refine sd_vv rfl rfl rfl (vv_extract rfl rfl) ?_
          refine sd_ev rfl rfl rfl (ev_alloc (cs := TSecret.cs (TSecret.mk 0 [] (TPoint.mk 0#64 0#64)) (.slice none 0 0)) zv_33 rfl) ?_
          rintro _ w31 ⟨b31, rfl, hbw31, Bw31, Gw31⟩
          have z62 := Gw31.size
          have lt63 := Bw31.lt
          have B64 := (Own.gr O30_r0_1 Gw31)
          refine sd_ev rfl rfl rfl (ev_stM (cs' := TSecret.cs x13.1 u30_r0_1) (vs := TSecret.cs x13.1 u30_r0_1) (agg_33).siz rfl rfl rfl rfl (TSecret.cs_ones _ _ (Own.oneB B64)) Bw31 rfl rfl) ?_
          rintro _ w32 ⟨Bw32, Mw32⟩
          have z65 := Mw32.size
          refine sd_vv rfl rfl rfl (vv_assign rfl) ?_
          refine sd_done ?_
          refine sw_seq ?_
          -- region 16 outright.go:94
          refine sw_region [(0, 0), (1, 0), (2, 0), (3, 0), (4, 0), (5, 0), (6, 0)] rfl rfl rfl ?_
          refine sd_vv rfl rfl rfl (vv_buildZ bz_23) ?_
          have B66 := (Bx.md (Bx.gr (Bx.gr B59 Gw30) Gw31) Mw32)
          refine sd_vv rfl rfl rfl (vv_loadW agg_28 rfl B66 rfl) ?_
          have hb := bnd hm; clear hm; obtain ⟨x14, hx14, hm⟩ := hb
          refine sd_ev rfl rfl rfl (ev_call en_18 rfl (poly_Secret_w k0 x1 4 _ hx14 _)) ?_
          rintro _ w33 ⟨u33_r0_1, z33_r0_1, g33_r0_1, rfl, O33_r0_1, f33_r0_1, Gw33⟩
          have z67 := Gw33.size
          have lt68 := O33_r0_1.lth
          refine sd_vv rfl rfl rfl (vv_move rfl) ?_
          refine sd_vv rfl rfl rfl (vv_extract rfl rfl) ?_
          refine sd_vv rfl rfl rfl (vv_extract rfl rfl) ?_
          refine sd_vv rfl rfl rfl (vv_assign rfl) ?_
          refine sd_done ?_
          refine sw_seq ?_
          have X69 : Gr w w33 := (Gr.trans (Gr.md (Gr.trans (Gr.trans (Gr.trans (Gr.trans (Gr.trans (Gr.trans (Gr.kz X46 Kw25) Gw26) Gw27) Gw28) Gw29) Gw30) Gw31) Mw32) Gw33)
          refine sw_joinD (β := Bool) [6, 8, 10, 12, 126, 127, 128, 129, 130, 131, 132, 133, 134, 135, 136, 137, 138, 139, 140, 141, 142, 143, 144, 145] (fun a15 => [(6, .int .i64 x11.2), (8, .int .i64 x12.2), (10, .int .i64 x13.2), (12, .int .i64 x14.2), (145, .bool a15)]) (fun a15 wr => (law04_PolyExamples_J3 x1 a15 = some r) ∧ Kz [] w33 wr) ?_ ?_
          · clear hm; rintro a15 w34 ⟨hm, Kw34⟩
            have z70 := Kw34.size
            unfold law04_PolyExamples_J3 at hm
            refine sw_cond rfl (fun c3 => ?_) (fun c3 => ?_)
            ·
              replace hm := cnd_t c3 hm
              refine sw_seq ?_
              -- region 18 outright.go:96
              refine sw_region [(0, 0)] rfl rfl rfl ?_
              refine sd_vv rfl rfl rfl (vv_assign rfl) ?_
              refine sd_done ?_
              refine sw_ret ?_
              refine then_r ?_
              have X71 : Gr w w34 := (Gr.kz X69 Kw34)
              have hr := Option.some.inj hm
              subst hr
              refine ⟨_, _, rfl, res_1 rfl (rv_tmp rfl), ?_⟩
              exact ⟨rfl, X71⟩
            ·
              replace hm := cnd_f c3 hm
              refine sw_skip ?_
              refine then_n ?_
              refine sw_seq ?_
              -- region 19 outright.go:98
              refine sw_region [(0, 0), (1, 0), (2, 0), (3, 0), (4, 0), (5, 0), (6, 0), (7, 0), (8, 0), (9, 0), (10, 0)] rfl rfl rfl ?_
              refine sd_vv rfl rfl rfl (vv_buildZ bz_23) ?_
              have B72 := (Bx.kz (Bx.gr B66 Gw33) Kw34)
              refine sd_vv rfl rfl rfl (vv_loadW agg_28 rfl B72 rfl) ?_
              refine sd_ev rfl rfl rfl (ev_litT [0, 2] ic bsl_41_2 rfl rfl (ws_of rfl) rfl rfl rfl) ?_
              rintro vw35 w35 ⟨gw35, hbw35, Ow35, Gw35⟩
              have z73 := Gw35.size
              have lt74 := Ow35.lth
              refine sd_vv rfl rfl rfl (vv_buildZ bz_23) ?_
              have hb := bnd hm; clear hm; obtain ⟨x16, hx16, hm⟩ := hb
              refine sd_ev rfl rfl rfl (ev_call en_21 rfl (poly_Seal_w k0 x1 [0, 2] k0 0#64 _ _ _ _ _ hx16 _ (Own.rd Ow35))) ?_
              rintro _ w36 ⟨u36_r0_0, z36_r0_0, g36_r0_0, u36_r0_2, z36_r0_2, g36_r0_2, rfl, O36_r0_0, f36_r0_0, O36_r0_2, f36_r0_2, d36_0, Gw36⟩
              have z75 := Gw36.size
              have lt76 := O36_r0_0.lth
              have lt77 := O36_r0_2.lth
              refine sd_vv rfl rfl rfl (vv_move rfl) ?_
              refine sd_vv rfl rfl rfl (vv_extract rfl rfl) ?_
              refine sd_vv rfl rfl rfl (vv_extract rfl rfl) ?_
              refine sd_ev rfl rfl rfl (ev_alloc (cs := THeader.cs (THeader.mk [] 0#64 [] k0 k0) (.slice none 0 0) (.slice none 0 0)) zv_45 rfl) ?_
              rintro _ w37 ⟨b37, rfl, hbw37, Bw37, Gw37⟩
              have z78 := Gw37.size
              have lt79 := Bw37.lt
              have B80 := (Own.gr O36_r0_0 Gw37)
              have B81 := (Own.gr O36_r0_2 Gw37)
              refine sd_ev rfl rfl rfl (ev_stM (cs' := THeader.cs x16.1 u36_r0_0 u36_r0_2) (vs := THeader.cs x16.1 u36_r0_0 u36_r0_2) (agg_45).siz rfl rfl rfl rfl (THeader.cs_ones _ _ _ (Own.oneB B80) (Own.oneB B81)) Bw37 rfl rfl) ?_
              rintro _ w38 ⟨Bw38, Mw38⟩
              have z82 := Mw38.size
              refine sd_vv rfl rfl rfl (vv_assign rfl) ?_
              refine sd_done ?_
              refine sw_seq ?_
              -- region 20 outright.go:99
              refine sw_region [(0, 0), (1, 0), (2, 0), (3, 0), (4, 0), (5, 0), (6, 0), (7, 0), (8, 0), (9, 0)] rfl rfl rfl ?_
              refine sd_vv rfl rfl rfl (vv_buildZ bz_23) ?_
              have B83 := (Bx.md (Bx.gr (Bx.gr (Bx.gr B72 Gw35) Gw36) Gw37) Mw38)
              refine sd_vv rfl rfl rfl (vv_loadW agg_28 rfl B83 rfl) ?_
              refine sd_vv rfl rfl rfl (vv_buildZ bz_23) ?_
              have hb := bnd hm; clear hm; obtain ⟨x17, hx17, hm⟩ := hb
              refine sd_ev rfl rfl rfl (ev_call en_21 rfl (poly_Seal_w k0 x1 ([] : List Int) k0 0#64 _ _ _ _ _ hx17 _ (Own.rd (own_nil _ 0 3 1)))) ?_
              rintro _ w39 ⟨u39_r0_0, z39_r0_0, g39_r0_0, u39_r0_2, z39_r0_2, g39_r0_2, rfl, O39_r0_0, f39_r0_0, O39_r0_2, f39_r0_2, d39_0, Gw39⟩
              have z84 := Gw39.size
              have lt85 := O39_r0_0.lth
              have lt86 := O39_r0_2.lth
              refine sd_vv rfl rfl rfl (vv_move rfl) ?_
              refine sd_vv rfl rfl rfl (vv_extract rfl rfl) ?_
              refine sd_vv rfl rfl rfl (vv_extract rfl rfl) ?_
              refine sd_ev rfl rfl rfl (ev_alloc (cs := THeader.cs (THeader.mk [] 0#64 [] k0 k0) (.slice none 0 0) (.slice none 0 0)) zv_45 rfl) ?_
              rintro _ w40 ⟨b40, rfl, hbw40, Bw40, Gw40⟩
              have z87 := Gw40.size
              have lt88 := Bw40.lt
              have B89 := (Own.gr O39_r0_0 Gw40)
              have B90 := (Own.gr O39_r0_2 Gw40)
              refine sd_ev rfl rfl rfl (ev_stM (cs' := THeader.cs x17.1 u39_r0_0 u39_r0_2) (vs := THeader.cs x17.1 u39_r0_0 u39_r0_2) (agg_45).siz rfl rfl rfl rfl (THeader.cs_ones _ _ _ (Own.oneB B89) (Own.oneB B90)) Bw40 rfl rfl) ?_
              rintro _ w41 ⟨Bw41, Mw41⟩
              have z91 := Mw41.size
              refine sd_vv rfl rfl rfl (vv_assign rfl) ?_
              refine sd_done ?_
              refine sw_seq ?_
              -- region 21 outright.go:100
              refine sw_region [(0, 0), (1, 0), (2, 0), (3, 0), (4, 0), (5, 0), (6, 0), (7, 0), (8, 0)] rfl rfl rfl ?_
              refine sd_vv rfl rfl rfl (vv_buildZ bz_23) ?_
              have B92 := (Bx.md (Bx.gr (Bx.gr B83 Gw39) Gw40) Mw41)
              refine sd_vv rfl rfl rfl (vv_loadW agg_28 rfl B92 rfl) ?_
              refine sd_ev rfl rfl rfl (ev_litT [0, 1, 2] ic bsl_41_3 rfl rfl (ws_of rfl) rfl rfl rfl) ?_
              rintro vw42 w42 ⟨gw42, hbw42, Ow42, Gw42⟩
              have z93 := Gw42.size
              have lt94 := Ow42.lth
              refine sd_vv rfl rfl rfl (vv_buildZ bz_23) ?_
              have hb := bnd hm; clear hm; obtain ⟨x18, hx18, hm⟩ := hb
              refine sd_ev rfl rfl rfl (ev_call en_21 rfl (poly_Seal_w k0 x1 [0, 1, 2] k0 0#64 _ _ _ _ _ hx18 _ (Own.rd Ow42))) ?_
              rintro _ w43 ⟨u43_r0_0, z43_r0_0, g43_r0_0, u43_r0_2, z43_r0_2, g43_r0_2, rfl, O43_r0_0, f43_r0_0, O43_r0_2, f43_r0_2, d43_0, Gw43⟩
              have z95 := Gw43.size
              have lt96 := O43_r0_0.lth
              have lt97 := O43_r0_2.lth
              refine sd_vv rfl rfl rfl (vv_move rfl) ?_
              refine sd_vv rfl rfl rfl (vv_extract rfl rfl) ?_
              refine sd_vv rfl rfl rfl (vv_extract rfl rfl) ?_
              refine sd_vv rfl rfl rfl (vv_assign rfl) ?_
              refine sd_done ?_
              refine sw_seq ?_
              have X98 : Gr w w43 := (Gr.trans (Gr.trans (Gr.md (Gr.trans (Gr.trans (Gr.md (Gr.trans (Gr.trans (Gr.trans (Gr.kz X69 Kw34) Gw35) Gw36) Gw37) Mw38) Gw39) Gw40) Mw41) Gw42) Gw43)
              refine sw_joinD (β := Bool) [6, 8, 10, 169, 170, 171, 172, 173, 174, 175, 176, 177, 178, 179, 180, 181, 182, 183, 184] (fun a19 => [(6, .int .i64 x16.2), (8, .int .i64 x17.2), (10, .int .i64 x18.2), (184, .bool a19)]) (fun a19 wr => (law04_PolyExamples_J4 a19 = some r) ∧ Kz [] w43 wr) ?_ ?_
              · clear hm; rintro a19 w44 ⟨hm, Kw44⟩
                have z99 := Kw44.size
                unfold law04_PolyExamples_J4 at hm
                refine sw_cond rfl (fun c4 => ?_) (fun c4 => ?_)
                ·
                  replace hm := cnd_t c4 hm
                  refine sw_seq ?_
                  -- region 23 outright.go:102
                  refine sw_region [(0, 0)] rfl rfl rfl ?_
                  refine sd_vv rfl rfl rfl (vv_assign rfl) ?_
                  refine sd_done ?_
                  refine sw_ret ?_
                  refine then_r ?_
                  have X100 : Gr w w44 := (Gr.kz X98 Kw44)
                  have hr := Option.some.inj hm
                  subst hr
                  refine ⟨_, _, rfl, res_1 rfl (rv_tmp rfl), ?_⟩
                  exact ⟨rfl, X100⟩
                ·
                  replace hm := cnd_f c4 hm
                  refine sw_skip ?_
                  refine then_n ?_
                  refine sw_seq ?_
                  -- region 24 outright.go:104
                  refine sw_region [(0, 0), (1, 0), (2, 0), (3, 0), (4, 0), (5, 0), (6, 0), (7, 0)] rfl rfl rfl ?_
                  refine sd_vv rfl rfl rfl (vv_buildA (cs := kb (504403158265495552#64, 0#64)) ba_23 rfl (by kernel_rfl)) ?_
                  have hb := bnd hm; clear hm; obtain ⟨x20, hx20, hm⟩ := hb
                  refine sd_ev rfl rfl rfl (ev_call en_39 rfl (poly_Full_w (504403158265495552#64, 0#64) 2 _ hx20 _)) ?_
                  rintro _ w45 ⟨u45_r0_1, z45_r0_1, g45_r0_1, rfl, O45_r0_1, f45_r0_1, Gw45⟩
                  have z101 := Gw45.size
                  have lt102 := O45_r0_1.lth
                  refine sd_vv rfl rfl rfl (vv_move rfl) ?_
                  refine sd_vv rfl rfl rfl (vv_extract rfl rfl) ?_
                  refine sd_vv rfl rfl rfl (vv_extract rfl rfl) ?_
                  refine sd_ev rfl rfl rfl (ev_alloc (cs := TPunctured.cs (TPunctured.mk 0 []) (.slice none 0 0)) zv_76 rfl) ?_
                  rintro _ w46 ⟨b46, rfl, hbw46, Bw46, Gw46⟩
                  have z103 := Gw46.size
                  have lt104 := Bw46.lt
                  have B105 := (Own.gr O45_r0_1 Gw46)
                  refine sd_ev rfl rfl rfl (ev_stM (cs' := TPunctured.cs x20.1 u45_r0_1) (vs := TPunctured.cs x20.1 u45_r0_1) (agg_76).siz rfl rfl rfl rfl (TPunctured.cs_ones _ _ (Own.oneB B105)) Bw46 rfl rfl) ?_
                  rintro _ w47 ⟨Bw47, Mw47⟩
                  have z106 := Mw47.size
                  refine sd_vv rfl rfl rfl (vv_assign rfl) ?_
                  refine sd_done ?_
                  refine sw_seq ?_
                  -- region 25 outright.go:105
                  refine sw_region [(0, 0), (1, 0), (2, 0), (3, 0), (4, 0), (5, 0), (6, 0)] rfl rfl rfl ?_
                  refine sd_vv rfl rfl rfl (vv_loadW agg_76 rfl Bw47 rfl) ?_
                  have B107 := (Own.md B105 Mw47 (tk1 ((pv_lt (A := (fun x => x ≠ b46)) lt102) : z45_r0_1 = 0 ∨ g45_r0_1 ≠ b46)))
                  have hb := bnd hm; clear hm; obtain ⟨x21, hx21, hm⟩ := hb
                  refine sd_ev rfl rfl rfl (ev_call en_44 rfl (poly_Puncture_w x20.1 1 _ _ _ _ _ hx21 _ (Own.rd B107))) ?_
                  rintro _ w48 ⟨u48_r0_1, z48_r0_1, g48_r0_1, rfl, O48_r0_1, f48_r0_1, Gw48⟩
                  have z108 := Gw48.size
                  have lt109 := O48_r0_1.lth
                  refine sd_vv rfl rfl rfl (vv_move rfl) ?_
                  refine sd_vv rfl rfl rfl (vv_extract rfl rfl) ?_
                  refine sd_vv rfl rfl rfl (vv_extract rfl rfl) ?_
                  have B110 := (Bx.gr Bw47 Gw48)
                  refine sd_ev rfl rfl rfl (ev_stM (cs' := TPunctured.cs x21.1 u48_r0_1) (vs := TPunctured.cs x21.1 u48_r0_1) (agg_76).siz rfl rfl rfl rfl (TPunctured.cs_ones _ _ (Own.oneB O48_r0_1)) B110 rfl rfl) ?_
                  rintro _ w49 ⟨Bw49, Mw49⟩
                  have z111 := Mw49.size
                  refine sd_vv rfl rfl rfl (vv_assign rfl) ?_
                  refine sd_done ?_
                  refine sw_seq ?_
                  -- region 26 outright.go:106
                  refine sw_region [(0, 0), (1, 0), (2, 0), (3, 0), (4, 0), (5, 0), (6, 0)] rfl rfl rfl ?_
                  refine sd_vv rfl rfl rfl (vv_loadW agg_76 rfl Bw49 rfl) ?_
                  have B112 := (Own.md O48_r0_1 Mw49 (tk1 ((pv_0 (A := (fun x => x ≠ b46)) f48_r0_1) : z48_r0_1 = 0 ∨ g48_r0_1 ≠ b46)))
                  have hb := bnd hm; clear hm; obtain ⟨x22, hx22, hm⟩ := hb
                  refine sd_ev rfl rfl rfl (ev_call en_44 rfl (poly_Puncture_w x21.1 3 _ _ _ _ _ hx22 _ (Own.rd B112))) ?_
                  rintro _ w50 ⟨u50_r0_1, z50_r0_1, g50_r0_1, rfl, O50_r0_1, f50_r0_1, Gw50⟩
                  have z113 := Gw50.size
                  have lt114 := O50_r0_1.lth
                  refine sd_vv rfl rfl rfl (vv_move rfl) ?_
                  refine sd_vv rfl rfl rfl (vv_extract rfl rfl) ?_
                  refine sd_vv rfl rfl rfl (vv_extract rfl rfl) ?_
                  have B115 := (Bx.gr Bw49 Gw50)
                  refine sd_ev rfl rfl rfl (ev_stM (cs' := TPunctured.cs x22.1 u50_r0_1) (vs := TPunctured.cs x22.1 u50_r0_1) (agg_76).siz rfl rfl rfl rfl (TPunctured.cs_ones _ _ (Own.oneB O50_r0_1)) B115 rfl rfl) ?_
                  rintro _ w51 ⟨Bw51, Mw51⟩
                  have z116 := Mw51.size
                  refine sd_vv rfl rfl rfl (vv_assign rfl) ?_
                  refine sd_done ?_
                  refine sw_seq ?_
                  -- region 27 outright.go:107
                  refine sw_region [(0, 0), (1, 0), (2, 0), (3, 0), (4, 0), (5, 0), (6, 0), (7, 0)] rfl rfl rfl ?_
                  refine sd_vv rfl rfl rfl (vv_loadW agg_76 rfl Bw51 rfl) ?_
                  have B117 := (Own.md O50_r0_1 Mw51 (tk1 ((pv_0 (A := (fun x => x ≠ b46)) f50_r0_1) : z50_r0_1 = 0 ∨ g50_r0_1 ≠ b46)))
                  have hb := bnd hm; clear hm; obtain ⟨x23, hx23, hm⟩ := hb
                  refine sd_ev rfl rfl rfl (ev_call en_44 rfl (poly_Puncture_w x22.1 1 _ _ _ _ _ hx23 _ (Own.rd B117))) ?_
                  rintro _ w52 ⟨u52_r0_1, z52_r0_1, g52_r0_1, rfl, O52_r0_1, f52_r0_1, Gw52⟩
                  have z118 := Gw52.size
                  have lt119 := O52_r0_1.lth
                  refine sd_vv rfl rfl rfl (vv_move rfl) ?_
                  refine sd_vv rfl rfl rfl (vv_extract rfl rfl) ?_
                  refine sd_vv rfl rfl rfl (vv_extract rfl rfl) ?_
                  refine sd_ev rfl rfl rfl (ev_alloc (cs := TPunctured.cs (TPunctured.mk 0 []) (.slice none 0 0)) zv_76 rfl) ?_
                  rintro _ w53 ⟨b53, rfl, hbw53, Bw53, Gw53⟩
                  have z120 := Gw53.size
                  have lt121 := Bw53.lt
                  have B122 := (Own.gr O52_r0_1 Gw53)
                  refine sd_ev rfl rfl rfl (ev_stM (cs' := TPunctured.cs x23.1 u52_r0_1) (vs := TPunctured.cs x23.1 u52_r0_1) (agg_76).siz rfl rfl rfl rfl (TPunctured.cs_ones _ _ (Own.oneB B122)) Bw53 rfl rfl) ?_
                  rintro _ w54 ⟨Bw54, Mw54⟩
                  have z123 := Mw54.size
                  refine sd_vv rfl rfl rfl (vv_assign rfl) ?_
                  refine sd_done ?_
                  refine sw_seq ?_
                  -- region 28 outright.go:108
                  refine sw_region [(0, 0), (1, 0), (2, 0), (3, 0), (4, 0), (5, 0), (6, 0), (7, 0)] rfl rfl rfl ?_
                  refine sd_vv rfl rfl rfl (vv_loadW agg_76 rfl Bw54 rfl) ?_
                  have B124 := (Own.md B122 Mw54 (tk1 ((pv_lt (A := (fun x => x ≠ b53)) lt119) : z52_r0_1 = 0 ∨ g52_r0_1 ≠ b53)))
                  have hb := bnd hm; clear hm; obtain ⟨x24, hx24, hm⟩ := hb
                  refine sd_ev rfl rfl rfl (ev_call en_44 rfl (poly_Puncture_w x23.1 0 _ _ _ _ _ hx24 _ (Own.rd B124))) ?_
                  rintro _ w55 ⟨u55_r0_1, z55_r0_1, g55_r0_1, rfl, O55_r0_1, f55_r0_1, Gw55⟩
                  have z125 := Gw55.size
                  have lt126 := O55_r0_1.lth
                  refine sd_vv rfl rfl rfl (vv_move rfl) ?_
                  refine sd_vv rfl rfl rfl (vv_extract rfl rfl) ?_
                  refine sd_vv rfl rfl rfl (vv_extract rfl rfl) ?_
                  refine sd_ev rfl rfl rfl (ev_alloc (cs := TPunctured.cs (TPunctured.mk 0 []) (.slice none 0 0)) zv_76 rfl) ?_
                  rintro _ w56 ⟨b56, rfl, hbw56, Bw56, Gw56⟩
                  have z127 := Gw56.size
                  have lt128 := Bw56.lt
                  have B129 := (Own.gr O55_r0_1 Gw56)
                  refine sd_ev rfl rfl rfl (ev_stM (cs' := TPunctured.cs x24.1 u55_r0_1) (vs := TPunctured.cs x24.1 u55_r0_1) (agg_76).siz rfl rfl rfl rfl (TPunctured.cs_ones _ _ (Own.oneB B129)) Bw56 rfl rfl) ?_
                  rintro _ w57 ⟨Bw57, Mw57⟩
                  have z130 := Mw57.size
                  refine sd_vv rfl rfl rfl (vv_assign rfl) ?_
                  refine sd_done ?_
                  refine sw_seq ?_
                  -- region 29 outright.go:109
                  refine sw_region [(0, 0), (1, 0), (2, 0), (3, 0), (4, 0), (5, 0), (6, 0), (7, 0)] rfl rfl rfl ?_
                  refine sd_vv rfl rfl rfl (vv_loadW agg_76 rfl Bw57 rfl) ?_
                  have B131 := (Own.md B129 Mw57 (tk1 ((pv_lt (A := (fun x => x ≠ b56)) lt126) : z55_r0_1 = 0 ∨ g55_r0_1 ≠ b56)))
                  have hb := bnd hm; clear hm; obtain ⟨x25, hx25, hm⟩ := hb
                  refine sd_ev rfl rfl rfl (ev_call en_44 rfl (poly_Puncture_w x24.1 2 _ _ _ _ _ hx25 _ (Own.rd B131))) ?_
                  rintro _ w58 ⟨u58_r0_1, z58_r0_1, g58_r0_1, rfl, O58_r0_1, f58_r0_1, Gw58⟩
                  have z132 := Gw58.size
                  have lt133 := O58_r0_1.lth
                  refine sd_vv rfl rfl rfl (vv_move rfl) ?_
                  refine sd_vv rfl rfl rfl (vv_extract rfl rfl) ?_
                  refine sd_vv rfl rfl rfl (vv_extract rfl rfl) ?_
                  refine sd_ev rfl rfl rfl (ev_alloc (cs := TPunctured.cs (TPunctured.mk 0 []) (.slice none 0 0)) zv_76 rfl) ?_
                  rintro _ w59 ⟨b59, rfl, hbw59, Bw59, Gw59⟩
                  have z134 := Gw59.size
                  have lt135 := Bw59.lt
                  have B136 := (Own.gr O58_r0_1 Gw59)
                  refine sd_ev rfl rfl rfl (ev_stM (cs' := TPunctured.cs x25.1 u58_r0_1) (vs := TPunctured.cs x25.1 u58_r0_1) (agg_76).siz rfl rfl rfl rfl (TPunctured.cs_ones _ _ (Own.oneB B136)) Bw59 rfl rfl) ?_
                  rintro _ w60 ⟨Bw60, Mw60⟩
                  have z137 := Mw60.size
                  refine sd_vv rfl rfl rfl (vv_assign rfl) ?_
                  refine sd_done ?_
                  refine sw_seq ?_
                  have X138 : Gr w w60 := (Gr.md (Gr.trans (Gr.trans (Gr.md (Gr.trans (Gr.trans (Gr.md (Gr.trans (Gr.trans (Gr.md (Gr.trans (Gr.md (Gr.trans (Gr.md (Gr.trans (Gr.trans (Gr.kz X98 Kw44) Gw45) Gw46) Mw47) Gw48) Mw49) Gw50) Mw51) Gw52) Gw53) Mw54) Gw55) Gw56) Mw57) Gw58) Gw59) Mw60)
                  refine sw_joinD (β := Bool) [6, 8, 10, 12, 215, 216, 217, 218, 219, 220, 221, 222, 223, 224, 225, 226, 227, 228, 229, 230, 231, 232, 233, 234, 235, 236, 237, 238, 239, 240] (fun a26 => [(6, .int .i64 x21.2), (8, .int .i64 x22.2), (10, .int .i64 x23.2), (240, .bool a26)]) (fun a26 wr => (law04_PolyExamples_J5 x22 a26 = some r) ∧ Kz [] w60 wr) ?_ ?_
                  · clear hm; rintro a26 w61 ⟨hm, Kw61⟩
                    have z139 := Kw61.size
                    unfold law04_PolyExamples_J5 at hm
                    refine sw_cond rfl (fun c5 => ?_) (fun c5 => ?_)
                    ·
                      replace hm := cnd_t c5 hm
                      refine sw_seq ?_
                      -- region 31 outright.go:111
                      refine sw_region [(0, 0)] rfl rfl rfl ?_
                      refine sd_vv rfl rfl rfl (vv_assign rfl) ?_
                      refine sd_done ?_
                      refine sw_ret ?_
                      refine then_r ?_
                      have X140 : Gr w w61 := (Gr.kz X138 Kw61)
                      have hr := Option.some.inj hm
                      subst hr
                      refine ⟨_, _, rfl, res_1 rfl (rv_tmp rfl), ?_⟩
                      exact ⟨rfl, X140⟩
                    ·
                      replace hm := cnd_f c5 hm
                      refine sw_skip ?_
                      refine then_n ?_
                      refine sw_seq ?_
                      -- region 32 outright.go:113
                      refine sw_region [(0, 0), (1, 0), (2, 0), (3, 0), (4, 0), (5, 0), (6, 0), (7, 0)] rfl rfl rfl ?_
                      refine sd_vv rfl rfl rfl (vv_buildA (cs := kb (504403158265495552#64, 0#64)) ba_23 rfl (by kernel_rfl)) ?_
                      have hb := bnd hm; clear hm; obtain ⟨x27, hx27, hm⟩ := hb
                      refine sd_ev rfl rfl rfl (ev_call en_39 rfl (poly_Full_w (504403158265495552#64, 0#64) 0 _ hx27 _)) ?_
                      rintro _ w62 ⟨u62_r0_1, z62_r0_1, g62_r0_1, rfl, O62_r0_1, f62_r0_1, Gw62⟩
                      have z141 := Gw62.size
                      have lt142 := O62_r0_1.lth
                      refine sd_vv rfl rfl rfl (vv_move rfl) ?_
                      refine sd_vv rfl rfl rfl (vv_extract rfl rfl) ?_
                      refine sd_vv rfl rfl rfl (vv_extract rfl rfl) ?_
                      refine sd_ev rfl rfl rfl (ev_alloc (cs := TPunctured.cs (TPunctured.mk 0 []) (.slice none 0 0)) zv_76 rfl) ?_
                      rintro _ w63 ⟨b63, rfl, hbw63, Bw63, Gw63⟩
                      have z143 := Gw63.size
                      have lt144 := Bw63.lt
                      have B145 := (Own.gr O62_r0_1 Gw63)
                      refine sd_ev rfl rfl rfl (ev_stM (cs' := TPunctured.cs x27.1 u62_r0_1) (vs := TPunctured.cs x27.1 u62_r0_1) (agg_76).siz rfl rfl rfl rfl (TPunctured.cs_ones _ _ (Own.oneB B145)) Bw63 rfl rfl) ?_
                      rintro _ w64 ⟨Bw64, Mw64⟩
                      have z146 := Mw64.size
                      refine sd_vv rfl rfl rfl (vv_assign rfl) ?_
                      refine sd_done ?_
                      refine sw_seq ?_
                      -- region 33 outright.go:114
                      refine sw_region [(0, 0), (1, 0), (2, 0), (3, 0), (4, 0), (5, 0), (6, 0), (7, 0)] rfl rfl rfl ?_
                      refine sd_vv rfl rfl rfl (vv_loadW agg_76 rfl Bw64 rfl) ?_
                      have B147 := (Own.md B145 Mw64 (tk1 ((pv_lt (A := (fun x => x ≠ b63)) lt142) : z62_r0_1 = 0 ∨ g62_r0_1 ≠ b63)))
                      have hb := bnd hm; clear hm; obtain ⟨x28, hx28, hm⟩ := hb
                      refine sd_ev rfl rfl rfl (ev_call en_46 rfl (poly_Evaluate_w x27.1 0 _ _ _ _ _ hx28 _ (Own.rd B147))) ?_
                      rintro _ w65 ⟨rfl, Gw65⟩
                      have z148 := Gw65.size
                      refine sd_vv rfl rfl rfl (vv_move rfl) ?_
                      refine sd_vv rfl rfl rfl (vv_extract rfl rfl) ?_
                      refine sd_vv rfl rfl rfl (vv_extract rfl rfl) ?_
                      refine sd_ev rfl rfl rfl (ev_alloc (cs := kb k0) zv_23 rfl) ?_
                      rintro _ w66 ⟨b66, rfl, hbw66, Bw66, Gw66⟩
                      have z149 := Gw66.size
                      have lt150 := Bw66.lt
                      refine sd_ev rfl rfl rfl (ev_stM (cs' := kb x28.1) (vs := kb x28.1) (agg_23).siz rfl rfl rfl rfl rfl Bw66 rfl rfl) ?_
                      rintro _ w67 ⟨Bw67, Mw67⟩
                      have z151 := Mw67.size
                      refine sd_vv rfl rfl rfl (vv_assign rfl) ?_
                      refine sd_done ?_
                      refine sw_seq ?_
                      -- region 34 outright.go:115
                      refine sw_region [(0, 0), (1, 0), (2, 0), (3, 0), (4, 0), (5, 0)] rfl rfl rfl ?_
                      have B152 := (Bx.md (Bx.gr (Bx.gr (Bx.md (Bx.gr (Bx.gr (Bx.kz (Bx.md (Bx.gr (Bx.gr (Bx.md (Bx.gr (Bx.gr (Bx.md (Bx.gr (Bx.gr Bw51 Gw52) Gw53) Mw54) Gw55) Gw56) Mw57) Gw58) Gw59) Mw60) Kw61) Gw62) Gw63) Mw64) Gw65) Gw66) Mw67)
                      refine sd_vv rfl rfl rfl (vv_loadW agg_76 rfl B152 rfl) ?_
                      have B153 := (Own.md (Own.gr (Own.gr (Own.md (Own.gr (Own.gr (Own.kz (Own.md (Own.gr (Own.gr (Own.md (Own.gr (Own.gr (Own.md (Own.gr (Own.gr B117 Gw52) Gw53) Mw54 (tk1 ((pv_lt (A := (fun x => x ≠ b53)) lt114) : z50_r0_1 = 0 ∨ g50_r0_1 ≠ b53))) Gw55) Gw56) Mw57 (tk1 ((pv_lt (A := (fun x => x ≠ b56)) lt114) : z50_r0_1 = 0 ∨ g50_r0_1 ≠ b56))) Gw58) Gw59) Mw60 (tk1 ((pv_lt (A := (fun x => x ≠ b59)) lt114) : z50_r0_1 = 0 ∨ g50_r0_1 ≠ b59))) Kw61) Gw62) Gw63) Mw64 (tk1 ((pv_lt (A := (fun x => x ≠ b63)) lt114) : z50_r0_1 = 0 ∨ g50_r0_1 ≠ b63))) Gw65) Gw66) Mw67 (tk1 ((pv_lt (A := (fun x => x ≠ b66)) lt114) : z50_r0_1 = 0 ∨ g50_r0_1 ≠ b66)))
                      have hb := bnd hm; clear hm; obtain ⟨x29, hx29, hm⟩ := hb
                      refine sd_ev rfl rfl rfl (ev_call en_46 rfl (poly_Evaluate_w x22.1 4 _ _ _ _ _ hx29 _ (Own.rd B153))) ?_
                      rintro _ w68 ⟨rfl, Gw68⟩
                      have z154 := Gw68.size
                      refine sd_vv rfl rfl rfl (vv_move rfl) ?_
                      refine sd_vv rfl rfl rfl (vv_extract rfl rfl) ?_
                      refine sd_vv rfl rfl rfl (vv_extract rfl rfl) ?_
                      refine sd_vv rfl rfl rfl (vv_assign rfl) ?_
                      refine sd_done ?_
                      refine sw_seq ?_
                      -- region 35 outright.go:116 DRAWS
                      refine sw_drawN [([])] [] (.leaf [(0, 10), (1, 10), (2, 10), (3, 10), (4, 10), (5, 10), (6, 10), (7, 10), (8, 10), (9, 0), (10, 10), (11, 10), (12, 10), (13, 10), (14, 10), (15, 10), (16, 10)]) (by kernel_rfl) (by kernel_rfl) rfl (by kernel_rfl) ?_
                      intro w69 Gw69 zw69
                      refine sdz_leaf ?_
                      refine dd_hn 0 rfl rfl rfl rfl (Kp.refl ([]) w69) (fun w hS => vv_move rfl) ?_
                      refine dd_hn 0 rfl rfl rfl rfl (Kp.refl ([]) w69) (fun w hS => vv_eql (a := x27.2) (b := 0) rfl rfl) ?_
                      refine dd_pn 0 rfl rfl rfl rfl (Kp.refl ([]) w69) (fun w hS => vv_move rfl) (fun c6 => ?_) (fun c6 => ?_)
                      ·
                        replace hm := ite_t (of_decide_eq_true c6) hm
                        refine dd_hn 0 rfl rfl rfl rfl (Kp.refl ([]) w69) (fun w hS => vv_move rfl) ?_
                        refine dd_hn 0 rfl rfl rfl rfl (Kp.refl ([]) w69) (fun w hS => vv_eql (a := x28.2) (b := 0) rfl rfl) ?_
                        refine dd_hn 0 rfl rfl rfl rfl (Kp.refl ([]) w69) (fun w hS => vv_pickT rfl rfl) ?_
                        refine dd_pn 0 rfl rfl rfl rfl (Kp.refl ([]) w69) (fun w hS => vv_move rfl) (fun c7 => ?_) (fun c7 => ?_)
                        ·
                          replace hm := ite_t (of_decide_eq_true c7) hm
                          have B155 := (Bx.gr (Bx.gr Bw67 Gw68) Gw69)
                          refine dd_hn 0 rfl rfl rfl rfl (Kp.refl ([]) w69) (fun w hS => vv_loadW agg_23 rfl (Bx.kp B155 hS) rfl) ?_
                          refine dd_hn 0 rfl rfl rfl rfl (Kp.refl ([]) w69) (fun w hS => vv_buildA (cs := kb (504403158265495552#64, 0#64)) ba_23 rfl (by kernel_rfl)) ?_
                          refine dd_z [] rfl rfl rfl (ev_call en_52 rfl (derive_c (504403158265495552#64, 0#64) (un8 33#8) (un8_nn _) (un8_le _) 0#64 _)) ⟨fun _ => tk0, trivial⟩ ?_
                          rintro _ w70 ⟨rfl, Gw70⟩
                          have z156 := Gw70.size
                          refine ⟨Kz.ofGr Gw70, ?_⟩
                          have S157 := (Kp.gr (Kp.refl ([]) w69) Gw70)
                          refine dd_hn 0 rfl rfl rfl rfl S157 (fun w hS => vv_eqlS (cf := kb) (a := x28.1) (b := drv (504403158265495552#64, 0#64) (un8 33#8) 0#64) eqt_23 rfl rfl rfl rfl (fun h => kb_inj h)) ?_
                          refine dd_hn 0 rfl rfl rfl rfl S157 (fun w hS => vv_pickT rfl rfl) ?_
                          refine dd_pn 0 rfl rfl rfl rfl S157 (fun w hS => vv_move rfl) (fun c8 => ?_) (fun c8 => ?_)
                          ·
                            replace hm := ite_t (of_decide_eq_true c8) hm
                            refine dd_hn 0 rfl rfl rfl rfl S157 (fun w hS => vv_move rfl) ?_
                            refine dd_hn 0 rfl rfl rfl rfl S157 (fun w hS => vv_eql (a := x29.2) (b := 2) rfl rfl) ?_
                            refine dd_hn 0 rfl rfl rfl rfl S157 (fun w hS => vv_pickT rfl rfl) ?_
                            refine dd_hn 0 rfl rfl rfl rfl S157 (fun w hS => vv_assign rfl) ?_
                            refine sd_done ?_
                            refine sw_ret ?_
                            have X158 : Gr w w70 := (Gr.trans (Gr.trans (Gr.trans (Gr.md (Gr.trans (Gr.trans (Gr.md (Gr.trans (Gr.trans (Gr.kz X138 Kw61) Gw62) Gw63) Mw64) Gw65) Gw66) Mw67) Gw68) Gw69) Gw70)
                            have hr := Option.some.inj hm
                            subst hr
                            refine ⟨_, _, rfl, res_1 rfl (rv_tmp rfl), ?_⟩
                            exact ⟨rfl, X158⟩
                          ·
                            replace hm := ite_f (of_decide_eq_false c8) hm
                            refine dd_sn 0 rfl rfl rfl rfl S157 ?_
                            refine dd_sn 0 rfl rfl rfl rfl S157 ?_
                            refine dd_hn 0 rfl rfl rfl rfl S157 (fun w hS => vv_pickF rfl rfl) ?_
                            refine dd_hn 0 rfl rfl rfl rfl S157 (fun w hS => vv_assign rfl) ?_
                            refine sd_done ?_
                            refine sw_ret ?_
                            have X159 : Gr w w70 := (Gr.trans (Gr.trans (Gr.trans (Gr.md (Gr.trans (Gr.trans (Gr.md (Gr.trans (Gr.trans (Gr.kz X138 Kw61) Gw62) Gw63) Mw64) Gw65) Gw66) Mw67) Gw68) Gw69) Gw70)
                            have hr := Option.some.inj hm
                            subst hr
                            refine ⟨_, _, rfl, res_1 rfl (rv_tmp rfl), ?_⟩
                            exact ⟨rfl, X159⟩
                        ·
                          replace hm := ite_f (of_decide_eq_false c7) hm
                          refine dd_sn 0 rfl rfl rfl rfl (Kp.refl ([]) w69) ?_
                          refine dd_sn 0 rfl rfl rfl rfl (Kp.refl ([]) w69) ?_
                          refine dd_sz rfl rfl rfl ?_
                          refine dd_sn 0 rfl rfl rfl rfl (Kp.refl ([]) w69) ?_
                          refine dd_hn 0 rfl rfl rfl rfl (Kp.refl ([]) w69) (fun w hS => vv_pickF rfl rfl) ?_
                          refine dd_hn 0 rfl rfl rfl rfl (Kp.refl ([]) w69) (fun w hS => vv_move rfl) ?_
                          refine dd_sn 0 rfl rfl rfl rfl (Kp.refl ([]) w69) ?_
                          refine dd_sn 0 rfl rfl rfl rfl (Kp.refl ([]) w69) ?_
                          refine dd_hn 0 rfl rfl rfl rfl (Kp.refl ([]) w69) (fun w hS => vv_pickF rfl rfl) ?_
                          refine dd_hn 0 rfl rfl rfl rfl (Kp.refl ([]) w69) (fun w hS => vv_assign rfl) ?_
                          refine sd_done ?_
                          refine sw_ret ?_
                          have X160 : Gr w w69 := (Gr.trans (Gr.trans (Gr.md (Gr.trans (Gr.trans (Gr.md (Gr.trans (Gr.trans (Gr.kz X138 Kw61) Gw62) Gw63) Mw64) Gw65) Gw66) Mw67) Gw68) Gw69)
                          have hr := Option.some.inj hm
                          subst hr
                          refine ⟨_, _, rfl, res_1 rfl (rv_tmp rfl), ?_⟩
                          exact ⟨rfl, X160⟩
                      ·
                        replace hm := ite_f (of_decide_eq_false c6) hm
                        refine dd_sn 0 rfl rfl rfl rfl (Kp.refl ([]) w69) ?_
                        refine dd_sn 0 rfl rfl rfl rfl (Kp.refl ([]) w69) ?_
                        refine dd_hn 0 rfl rfl rfl rfl (Kp.refl ([]) w69) (fun w hS => vv_pickF rfl rfl) ?_
                        refine dd_hn 0 rfl rfl rfl rfl (Kp.refl ([]) w69) (fun w hS => vv_move rfl) ?_
                        refine dd_sn 0 rfl rfl rfl rfl (Kp.refl ([]) w69) ?_
                        refine dd_sn 0 rfl rfl rfl rfl (Kp.refl ([]) w69) ?_
                        refine dd_sz rfl rfl rfl ?_
                        refine dd_sn 0 rfl rfl rfl rfl (Kp.refl ([]) w69) ?_
                        refine dd_hn 0 rfl rfl rfl rfl (Kp.refl ([]) w69) (fun w hS => vv_pickF rfl rfl) ?_
                        refine dd_hn 0 rfl rfl rfl rfl (Kp.refl ([]) w69) (fun w hS => vv_move rfl) ?_
                        refine dd_sn 0 rfl rfl rfl rfl (Kp.refl ([]) w69) ?_
                        refine dd_sn 0 rfl rfl rfl rfl (Kp.refl ([]) w69) ?_
                        refine dd_hn 0 rfl rfl rfl rfl (Kp.refl ([]) w69) (fun w hS => vv_pickF rfl rfl) ?_
                        refine dd_hn 0 rfl rfl rfl rfl (Kp.refl ([]) w69) (fun w hS => vv_assign rfl) ?_
                        refine sd_done ?_
                        refine sw_ret ?_
                        have X161 : Gr w w69 := (Gr.trans (Gr.trans (Gr.md (Gr.trans (Gr.trans (Gr.md (Gr.trans (Gr.trans (Gr.kz X138 Kw61) Gw62) Gw63) Mw64) Gw65) Gw66) Mw67) Gw68) Gw69)
                        have hr := Option.some.inj hm
                        subst hr
                        refine ⟨_, _, rfl, res_1 rfl (rv_tmp rfl), ?_⟩
                        exact ⟨rfl, X161⟩
                  ·
                    -- region 30 outright.go:110
                    refine sw_region [(0, 0), (1, 0), (2, 0), (3, 0), (4, 0), (5, 0), (6, 0), (7, 0), (8, 0), (9, 0), (10, 0), (11, 0), (12, 0), (13, 0), (14, 0), (15, 0), (16, 0), (17, 0), (18, 0), (19, 0), (20, 0), (21, 0), (22, 0), (23, 0), (24, 0), (25, 0)] rfl rfl rfl ?_
                    refine sd_vv rfl rfl rfl (vv_move rfl) ?_
                    refine sd_vv rfl rfl rfl (vv_neq (a := x21.2) (b := 0) rfl rfl) ?_
                    refine sd_split rfl rfl rfl (vv_move rfl) (fun c9 => ?_) (fun c9 => ?_)
                    ·
                      replace hm := ite_t (of_decide_eq_true c9) hm
                      refine sd_skip rfl rfl rfl ?_
                      refine sd_skip rfl rfl rfl ?_
                      refine sd_skip rfl rfl rfl ?_
                      refine sd_skip rfl rfl rfl ?_
                      refine sd_skip rfl rfl rfl ?_
                      refine sd_vv rfl rfl rfl (vv_pickT rfl rfl) ?_
                      refine sd_vv rfl rfl rfl (vv_move rfl) ?_
                      refine sd_skip rfl rfl rfl ?_
                      refine sd_skip rfl rfl rfl ?_
                      refine sd_skip rfl rfl rfl ?_
                      refine sd_skip rfl rfl rfl ?_
                      refine sd_skip rfl rfl rfl ?_
                      refine sd_vv rfl rfl rfl (vv_pickT rfl rfl) ?_
                      refine sd_vv rfl rfl rfl (vv_move rfl) ?_
                      refine sd_skip rfl rfl rfl ?_
                      refine sd_skip rfl rfl rfl ?_
                      refine sd_vv rfl rfl rfl (vv_pickT rfl rfl) ?_
                      refine sd_vv rfl rfl rfl (vv_move rfl) ?_
                      refine sd_skip rfl rfl rfl ?_
                      refine sd_skip rfl rfl rfl ?_
                      refine sd_skip rfl rfl rfl ?_
                      refine sd_skip rfl rfl rfl ?_
                      refine sd_vv rfl rfl rfl (vv_pickT rfl rfl) ?_
                      refine sd_nil ?_
                      have K_162 : Kz [] w60 w60 := (Kz.refl _ _)
                      refine ⟨rfl, true, ?_, hm, K_162⟩
                      repeat' first | exact trivial | refine ⟨rfl, ?_⟩
                    ·
                      replace hm := ite_f (of_decide_eq_false c9) hm
                      have B163 := (Bx.md (Bx.gr (Bx.gr (Bx.md (Bx.gr (Bx.gr (Bx.md (Bx.gr (Bx.gr Bw51 Gw52) Gw53) Mw54) Gw55) Gw56) Mw57) Gw58) Gw59) Mw60)
                      refine sd_vv rfl rfl rfl (vv_loadW agg_76 rfl B163 rfl) ?_
                      refine sd_vv rfl rfl rfl (vv_move rfl) ?_
                      refine sd_ev rfl rfl rfl (ev_litT [4, 6] ic bsl_41_2 rfl rfl (ws_of rfl) rfl rfl rfl) ?_
                      rintro vw71 w71 ⟨gw71, hbw71, Ow71, Gw71⟩
                      have z164 := Gw71.size
                      have lt165 := Ow71.lth
                      have B166 := (Own.gr (Own.md (Own.gr (Own.gr (Own.md (Own.gr (Own.gr (Own.md (Own.gr (Own.gr B117 Gw52) Gw53) Mw54 (tk1 ((pv_lt (A := (fun x => x ≠ b53)) lt114) : z50_r0_1 = 0 ∨ g50_r0_1 ≠ b53))) Gw55) Gw56) Mw57 (tk1 ((pv_lt (A := (fun x => x ≠ b56)) lt114) : z50_r0_1 = 0 ∨ g50_r0_1 ≠ b56))) Gw58) Gw59) Mw60 (tk1 ((pv_lt (A := (fun x => x ≠ b59)) lt114) : z50_r0_1 = 0 ∨ g50_r0_1 ≠ b59))) Gw71)
                      have hb := bnd hm; clear hm; obtain ⟨x30, hx30, hm⟩ := hb
                      refine sd_ev rfl rfl rfl (ev_call en_51 rfl (law04_nodes_w x22.1 x22.2 [4, 6] _ _ _ _ _ _ _ _ _ hx30 _ (Own.rd B166) (Own.rd Ow71))) ?_
                      rintro _ w72 ⟨rfl, Gw72⟩
                      have z167 := Gw72.size
                      refine sd_vv rfl rfl rfl (vv_not rfl) ?_
                      refine sd_vv rfl rfl rfl (vv_pickF rfl rfl) ?_
                      refine sd_split rfl rfl rfl (vv_move rfl) (fun c10 => ?_) (fun c10 => ?_)
                      ·
                        replace hm := cnd_t c10 hm
                        refine sd_skip rfl rfl rfl ?_
                        refine sd_skip rfl rfl rfl ?_
                        refine sd_skip rfl rfl rfl ?_
                        refine sd_skip rfl rfl rfl ?_
                        refine sd_skip rfl rfl rfl ?_
                        refine sd_vv rfl rfl rfl (vv_pickT rfl rfl) ?_
                        refine sd_vv rfl rfl rfl (vv_move rfl) ?_
                        refine sd_skip rfl rfl rfl ?_
                        refine sd_skip rfl rfl rfl ?_
                        refine sd_vv rfl rfl rfl (vv_pickT rfl rfl) ?_
                        refine sd_vv rfl rfl rfl (vv_move rfl) ?_
                        refine sd_skip rfl rfl rfl ?_
                        refine sd_skip rfl rfl rfl ?_
                        refine sd_skip rfl rfl rfl ?_
                        refine sd_skip rfl rfl rfl ?_
                        refine sd_vv rfl rfl rfl (vv_pickT rfl rfl) ?_
                        refine sd_nil ?_
                        have K_168 : Kz [] w60 w72 := (Kz.gr (Kz.gr (Kz.refl _ _) Gw71) Gw72)
                        refine ⟨rfl, true, ?_, hm, K_168⟩
                        repeat' first | exact trivial | refine ⟨rfl, ?_⟩
                      ·
                        replace hm := cnd_f c10 hm
                        have B169 := (Bx.gr (Bx.gr (Bx.md (Bx.gr (Bx.gr (Bx.md (Bx.gr (Bx.gr Bw54 Gw55) Gw56) Mw57) Gw58) Gw59) Mw60) Gw71) Gw72)
                        refine sd_vv rfl rfl rfl (vv_loadW agg_76 rfl B169 rfl) ?_
                        refine sd_vv rfl rfl rfl (vv_move rfl) ?_
                        refine sd_ev rfl rfl rfl (ev_litT [4, 6] ic bsl_41_2 rfl rfl (ws_of rfl) rfl rfl rfl) ?_
                        rintro vw73 w73 ⟨gw73, hbw73, Ow73, Gw73⟩
                        have z170 := Gw73.size
                        have lt171 := Ow73.lth
                        have B172 := (Own.gr (Own.gr (Own.gr (Own.md (Own.gr (Own.gr (Own.md (Own.gr (Own.gr B124 Gw55) Gw56) Mw57 (tk1 ((pv_lt (A := (fun x => x ≠ b56)) lt119) : z52_r0_1 = 0 ∨ g52_r0_1 ≠ b56))) Gw58) Gw59) Mw60 (tk1 ((pv_lt (A := (fun x => x ≠ b59)) lt119) : z52_r0_1 = 0 ∨ g52_r0_1 ≠ b59))) Gw71) Gw72) Gw73)
                        have hb := bnd hm; clear hm; obtain ⟨x31, hx31, hm⟩ := hb
                        refine sd_ev rfl rfl rfl (ev_call en_51 rfl (law04_nodes_w x23.1 x23.2 [4, 6] _ _ _ _ _ _ _ _ _ hx31 _ (Own.rd B172) (Own.rd Ow73))) ?_
                        rintro _ w74 ⟨rfl, Gw74⟩
                        have z173 := Gw74.size
                        refine sd_vv rfl rfl rfl (vv_not rfl) ?_
                        refine sd_vv rfl rfl rfl (vv_pickF rfl rfl) ?_
                        refine sd_split rfl rfl rfl (vv_move rfl) (fun c11 => ?_) (fun c11 => ?_)
                        ·
                          replace hm := cnd_t c11 hm
                          refine sd_skip rfl rfl rfl ?_
                          refine sd_skip rfl rfl rfl ?_
                          refine sd_vv rfl rfl rfl (vv_pickT rfl rfl) ?_
                          refine sd_vv rfl rfl rfl (vv_move rfl) ?_
                          refine sd_skip rfl rfl rfl ?_
                          refine sd_skip rfl rfl rfl ?_
                          refine sd_skip rfl rfl rfl ?_
                          refine sd_skip rfl rfl rfl ?_
                          refine sd_vv rfl rfl rfl (vv_pickT rfl rfl) ?_
                          refine sd_nil ?_
                          have K_174 : Kz [] w60 w74 := (Kz.gr (Kz.gr (Kz.gr (Kz.gr (Kz.refl _ _) Gw71) Gw72) Gw73) Gw74)
                          refine ⟨rfl, true, ?_, hm, K_174⟩
                          repeat' first | exact trivial | refine ⟨rfl, ?_⟩
                        ·
                          replace hm := cnd_f c11 hm
                          refine sd_vv rfl rfl rfl (vv_move rfl) ?_
                          refine sd_vv rfl rfl rfl (vv_neq (a := x24.2) (b := 0) rfl rfl) ?_
                          refine sd_vv rfl rfl rfl (vv_pickF rfl rfl) ?_
                          refine sd_split rfl rfl rfl (vv_move rfl) (fun c12 => ?_) (fun c12 => ?_)
                          ·
                            replace hm := ite_t (of_decide_eq_true c12) hm
                            refine sd_skip rfl rfl rfl ?_
                            refine sd_skip rfl rfl rfl ?_
                            refine sd_skip rfl rfl rfl ?_
                            refine sd_skip rfl rfl rfl ?_
                            refine sd_vv rfl rfl rfl (vv_pickT rfl rfl) ?_
                            refine sd_nil ?_
                            have K_175 : Kz [] w60 w74 := (Kz.gr (Kz.gr (Kz.gr (Kz.gr (Kz.refl _ _) Gw71) Gw72) Gw73) Gw74)
                            refine ⟨rfl, true, ?_, hm, K_175⟩
                            repeat' first | exact trivial | refine ⟨rfl, ?_⟩
                          ·
                            replace hm := ite_f (of_decide_eq_false c12) hm
                            have B176 := (Bx.gr (Bx.gr (Bx.gr (Bx.gr Bw60 Gw71) Gw72) Gw73) Gw74)
                            refine sd_vv rfl rfl rfl (vv_loadW agg_76 rfl B176 rfl) ?_
                            refine sd_vv rfl rfl rfl (vv_move rfl) ?_
                            have B177 := (Own.gr (Own.gr (Own.gr (Own.gr (Own.md B136 Mw60 (tk1 ((pv_lt (A := (fun x => x ≠ b59)) lt133) : z58_r0_1 = 0 ∨ g58_r0_1 ≠ b59))) Gw71) Gw72) Gw73) Gw74)
                            have hb := bnd hm; clear hm; obtain ⟨x32, hx32, hm⟩ := hb
                            refine sd_ev rfl rfl rfl (ev_call en_51 rfl (law04_nodes_w x25.1 x25.2 ([] : List Int) _ _ _ _ _ _ _ _ _ hx32 _ (Own.rd B177) (Own.rd (own_nil _ 0 3 1)))) ?_
                            rintro _ w75 ⟨rfl, Gw75⟩
                            have z178 := Gw75.size
                            refine sd_vv rfl rfl rfl (vv_not rfl) ?_
                            refine sd_vv rfl rfl rfl (vv_pickF rfl rfl) ?_
                            refine sd_nil ?_
                            have K_179 : Kz [] w60 w75 := (Kz.gr (Kz.gr (Kz.gr (Kz.gr (Kz.gr (Kz.refl _ _) Gw71) Gw72) Gw73) Gw74) Gw75)
                            refine ⟨rfl, (!x32), ?_, hm, K_179⟩
                            repeat' first | exact trivial | refine ⟨rfl, ?_⟩
              ·
                -- region 22 outright.go:101
                refine sw_region [(0, 0), (1, 0), (2, 0), (3, 0), (4, 0), (5, 0), (6, 0), (7, 0), (8, 0), (9, 0), (10, 0), (11, 0), (12, 0), (13, 0), (14, 0), (15, 0)] rfl rfl rfl ?_
                have B180 := (Bx.gr (Bx.gr (Bx.md (Bx.gr (Bx.gr Bw38 Gw39) Gw40) Mw41) Gw42) Gw43)
                refine sd_vv rfl rfl rfl (vv_loadW agg_45 rfl B180 rfl) ?_
                refine sd_vv rfl rfl rfl (vv_move rfl) ?_
                refine sd_ev rfl rfl rfl (ev_litT [1#64, 3#64] uwc bsl_60_2 rfl rfl (ws_of rfl) rfl rfl rfl) ?_
                rintro vw76 w76 ⟨gw76, hbw76, Ow76, Gw76⟩
                have z181 := Gw76.size
                have lt182 := Ow76.lth
                have B183 := (Own.gr (Own.gr (Own.gr (Own.md (Own.gr (Own.gr (Own.md B80 Mw38 (tk1 ((pv_lt (A := (fun x => x ≠ b37)) lt76) : z36_r0_0 = 0 ∨ g36_r0_0 ≠ b37))) Gw39) Gw40) Mw41 (tk1 ((pv_lt (A := (fun x => x ≠ b40)) lt76) : z36_r0_0 = 0 ∨ g36_r0_0 ≠ b40))) Gw42) Gw43) Gw76)
                have B184 := (Own.gr (Own.gr (Own.gr (Own.md (Own.gr (Own.gr (Own.md B81 Mw38 (tk1 ((pv_lt (A := (fun x => x ≠ b37)) lt77) : z36_r0_2 = 0 ∨ g36_r0_2 ≠ b37))) Gw39) Gw40) Mw41 (tk1 ((pv_lt (A := (fun x => x ≠ b40)) lt77) : z36_r0_2 = 0 ∨ g36_r0_2 ≠ b40))) Gw42) Gw43) Gw76)
                have hb := bnd hm; clear hm; obtain ⟨x33, hx33, hm⟩ := hb
                refine sd_ev rfl rfl rfl (ev_call en_50 rfl (law04_points_w x16.1 x16.2 [1#64, 3#64] _ _ _ _ _ _ _ _ _ _ _ _ _ hx33 _ (Own.rd B183) (Own.rd B184) (Own.rd Ow76))) ?_
                rintro _ w77 ⟨rfl, Gw77⟩
                have z185 := Gw77.size
                refine sd_vv rfl rfl rfl (vv_not rfl) ?_
                refine sd_split rfl rfl rfl (vv_move rfl) (fun c13 => ?_) (fun c13 => ?_)
                ·
                  replace hm := cnd_t c13 hm
                  refine sd_skip rfl rfl rfl ?_
                  refine sd_skip rfl rfl rfl ?_
                  refine sd_skip rfl rfl rfl ?_
                  refine sd_skip rfl rfl rfl ?_
                  refine sd_skip rfl rfl rfl ?_
                  refine sd_vv rfl rfl rfl (vv_pickT rfl rfl) ?_
                  refine sd_vv rfl rfl rfl (vv_move rfl) ?_
                  refine sd_skip rfl rfl rfl ?_
                  refine sd_skip rfl rfl rfl ?_
                  refine sd_vv rfl rfl rfl (vv_pickT rfl rfl) ?_
                  refine sd_nil ?_
                  have K_186 : Kz [] w43 w77 := (Kz.gr (Kz.gr (Kz.refl _ _) Gw76) Gw77)
                  refine ⟨rfl, true, ?_, hm, K_186⟩
                  repeat' first | exact trivial | refine ⟨rfl, ?_⟩
                ·
                  replace hm := cnd_f c13 hm
                  have B187 := (Bx.gr (Bx.gr (Bx.gr (Bx.gr Bw41 Gw42) Gw43) Gw76) Gw77)
                  refine sd_vv rfl rfl rfl (vv_loadW agg_45 rfl B187 rfl) ?_
                  refine sd_vv rfl rfl rfl (vv_move rfl) ?_
                  refine sd_ev rfl rfl rfl (ev_litT [5#64, 6#64] uwc bsl_60_2 rfl rfl (ws_of rfl) rfl rfl rfl) ?_
                  rintro vw78 w78 ⟨gw78, hbw78, Ow78, Gw78⟩
                  have z188 := Gw78.size
                  have lt189 := Ow78.lth
                  have B190 := (Own.gr (Own.gr (Own.gr (Own.gr (Own.gr (Own.md B89 Mw41 (tk1 ((pv_lt (A := (fun x => x ≠ b40)) lt85) : z39_r0_0 = 0 ∨ g39_r0_0 ≠ b40))) Gw42) Gw43) Gw76) Gw77) Gw78)
                  have B191 := (Own.gr (Own.gr (Own.gr (Own.gr (Own.gr (Own.md B90 Mw41 (tk1 ((pv_lt (A := (fun x => x ≠ b40)) lt86) : z39_r0_2 = 0 ∨ g39_r0_2 ≠ b40))) Gw42) Gw43) Gw76) Gw77) Gw78)
                  have hb := bnd hm; clear hm; obtain ⟨x34, hx34, hm⟩ := hb
                  refine sd_ev rfl rfl rfl (ev_call en_50 rfl (law04_points_w x17.1 x17.2 [5#64, 6#64] _ _ _ _ _ _ _ _ _ _ _ _ _ hx34 _ (Own.rd B190) (Own.rd B191) (Own.rd Ow78))) ?_
                  rintro _ w79 ⟨rfl, Gw79⟩
                  have z192 := Gw79.size
                  refine sd_vv rfl rfl rfl (vv_not rfl) ?_
                  refine sd_vv rfl rfl rfl (vv_pickF rfl rfl) ?_
                  refine sd_split rfl rfl rfl (vv_move rfl) (fun c14 => ?_) (fun c14 => ?_)
                  ·
                    replace hm := cnd_t c14 hm
                    refine sd_skip rfl rfl rfl ?_
                    refine sd_skip rfl rfl rfl ?_
                    refine sd_vv rfl rfl rfl (vv_pickT rfl rfl) ?_
                    refine sd_nil ?_
                    have K_193 : Kz [] w43 w79 := (Kz.gr (Kz.gr (Kz.gr (Kz.gr (Kz.refl _ _) Gw76) Gw77) Gw78) Gw79)
                    refine ⟨rfl, true, ?_, hm, K_193⟩
                    repeat' first | exact trivial | refine ⟨rfl, ?_⟩
                  ·
                    replace hm := cnd_f c14 hm
                    refine sd_vv rfl rfl rfl (vv_move rfl) ?_
                    refine sd_vv rfl rfl rfl (vv_neq (a := x18.2) (b := 4) rfl rfl) ?_
                    refine sd_vv rfl rfl rfl (vv_pickF rfl rfl) ?_
                    refine sd_nil ?_
                    have K_194 : Kz [] w43 w79 := (Kz.gr (Kz.gr (Kz.gr (Kz.gr (Kz.refl _ _) Gw76) Gw77) Gw78) Gw79)
                    refine ⟨rfl, (decide (x18.2 ≠ 4)), ?_, hm, K_194⟩
                    repeat' first | exact trivial | refine ⟨rfl, ?_⟩
          ·
            -- region 17 outright.go:95
            refine sw_region [(0, 0), (1, 0), (2, 0), (3, 0), (4, 0), (5, 0), (6, 0), (7, 0), (8, 0), (9, 0), (10, 0), (11, 0), (12, 0), (13, 0), (14, 0), (15, 0), (16, 0), (17, 0), (18, 0), (19, 0)] rfl rfl rfl ?_
            refine sd_vv rfl rfl rfl (vv_move rfl) ?_
            refine sd_vv rfl rfl rfl (vv_neq (a := x11.2) (b := 2) rfl rfl) ?_
            refine sd_split rfl rfl rfl (vv_move rfl) (fun c15 => ?_) (fun c15 => ?_)
            ·
              replace hm := ite_t (of_decide_eq_true c15) hm
              refine sd_skip rfl rfl rfl ?_
              refine sd_skip rfl rfl rfl ?_
              refine sd_vv rfl rfl rfl (vv_pickT rfl rfl) ?_
              refine sd_vv rfl rfl rfl (vv_move rfl) ?_
              refine sd_skip rfl rfl rfl ?_
              refine sd_skip rfl rfl rfl ?_
              refine sd_vv rfl rfl rfl (vv_pickT rfl rfl) ?_
              refine sd_vv rfl rfl rfl (vv_move rfl) ?_
              refine sd_skip rfl rfl rfl ?_
              refine sd_skip rfl rfl rfl ?_
              refine sd_skip rfl rfl rfl ?_
              refine sd_skip rfl rfl rfl ?_
              refine sd_vv rfl rfl rfl (vv_pickT rfl rfl) ?_
              refine sd_vv rfl rfl rfl (vv_move rfl) ?_
              refine sd_skip rfl rfl rfl ?_
              refine sd_skip rfl rfl rfl ?_
              refine sd_vv rfl rfl rfl (vv_pickT rfl rfl) ?_
              refine sd_nil ?_
              have K_195 : Kz [] w33 w33 := (Kz.refl _ _)
              refine ⟨rfl, true, ?_, hm, K_195⟩
              repeat' first | exact trivial | refine ⟨rfl, ?_⟩
            ·
              replace hm := ite_f (of_decide_eq_false c15) hm
              refine sd_vv rfl rfl rfl (vv_move rfl) ?_
              refine sd_vv rfl rfl rfl (vv_neq (a := x12.2) (b := 2) rfl rfl) ?_
              refine sd_vv rfl rfl rfl (vv_pickF rfl rfl) ?_
              refine sd_split rfl rfl rfl (vv_move rfl) (fun c16 => ?_) (fun c16 => ?_)
              ·
                replace hm := ite_t (of_decide_eq_true c16) hm
                refine sd_skip rfl rfl rfl ?_
                refine sd_skip rfl rfl rfl ?_
                refine sd_vv rfl rfl rfl (vv_pickT rfl rfl) ?_
                refine sd_vv rfl rfl rfl (vv_move rfl) ?_
                refine sd_skip rfl rfl rfl ?_
                refine sd_skip rfl rfl rfl ?_
                refine sd_skip rfl rfl rfl ?_
                refine sd_skip rfl rfl rfl ?_
                refine sd_vv rfl rfl rfl (vv_pickT rfl rfl) ?_
                refine sd_vv rfl rfl rfl (vv_move rfl) ?_
                refine sd_skip rfl rfl rfl ?_
                refine sd_skip rfl rfl rfl ?_
                refine sd_vv rfl rfl rfl (vv_pickT rfl rfl) ?_
                refine sd_nil ?_
                have K_196 : Kz [] w33 w33 := (Kz.refl _ _)
                refine ⟨rfl, true, ?_, hm, K_196⟩
                repeat' first | exact trivial | refine ⟨rfl, ?_⟩
              ·
                replace hm := ite_f (of_decide_eq_false c16) hm
                refine sd_vv rfl rfl rfl (vv_move rfl) ?_
                refine sd_vv rfl rfl rfl (vv_neq (a := x13.2) (b := 0) rfl rfl) ?_
                refine sd_vv rfl rfl rfl (vv_pickF rfl rfl) ?_
                refine sd_split rfl rfl rfl (vv_move rfl) (fun c17 => ?_) (fun c17 => ?_)
                ·
                  replace hm := ite_t (of_decide_eq_true c17) hm
                  refine sd_skip rfl rfl rfl ?_
                  refine sd_skip rfl rfl rfl ?_
                  refine sd_skip rfl rfl rfl ?_
                  refine sd_skip rfl rfl rfl ?_
                  refine sd_vv rfl rfl rfl (vv_pickT rfl rfl) ?_
                  refine sd_vv rfl rfl rfl (vv_move rfl) ?_
                  refine sd_skip rfl rfl rfl ?_
                  refine sd_skip rfl rfl rfl ?_
                  refine sd_vv rfl rfl rfl (vv_pickT rfl rfl) ?_
                  refine sd_nil ?_
                  have K_197 : Kz [] w33 w33 := (Kz.refl _ _)
                  refine ⟨rfl, true, ?_, hm, K_197⟩
                  repeat' first | exact trivial | refine ⟨rfl, ?_⟩
                ·
                  replace hm := ite_f (of_decide_eq_false c17) hm
                  refine sd_vv rfl rfl rfl (vv_fieldAddr fa_33_2 rfl) ?_
                  refine sd_vv rfl rfl rfl (vv_fieldAddr fa_31_0 rfl) ?_
                  have B198 := (Bx.gr Bw32 Gw33)
                  refine sd_vv rfl rfl rfl (vv_load1 (v := wv x13.1.Share.X) one_24 rfl B198 rfl) ?_
                  refine sd_vv rfl rfl rfl (vv_neqU (c := x13.1.Share.X) (d := 4#64) rfl rfl) ?_
                  refine sd_vv rfl rfl rfl (vv_pickF rfl rfl) ?_
                  refine sd_split rfl rfl rfl (vv_move rfl) (fun c18 => ?_) (fun c18 => ?_)
                  ·
                    replace hm := ite_t (of_decide_eq_true c18) hm
                    refine sd_skip rfl rfl rfl ?_
                    refine sd_skip rfl rfl rfl ?_
                    refine sd_vv rfl rfl rfl (vv_pickT rfl rfl) ?_
                    refine sd_nil ?_
                    have K_199 : Kz [] w33 w33 := (Kz.refl _ _)
                    refine ⟨rfl, true, ?_, hm, K_199⟩
                    repeat' first | exact trivial | refine ⟨rfl, ?_⟩
                  ·
                    replace hm := ite_f (of_decide_eq_false c18) hm
                    refine sd_vv rfl rfl rfl (vv_move rfl) ?_
                    refine sd_vv rfl rfl rfl (vv_neq (a := x14.2) (b := 2) rfl rfl) ?_
                    refine sd_vv rfl rfl rfl (vv_pickF rfl rfl) ?_
                    refine sd_nil ?_
                    have K_200 : Kz [] w33 w33 := (Kz.refl _ _)
                    refine ⟨rfl, (decide (x14.2 ≠ 2)), ?_, hm, K_200⟩
                    repeat' first | exact trivial | refine ⟨rfl, ?_⟩
      ·
        -- region 11 outright.go:88
        refine sw_region [(0, 0), (1, 0), (2, 0), (3, 0), (4, 0), (5, 0), (6, 0), (7, 0), (8, 0), (9, 0), (10, 0), (11, 0), (12, 0), (13, 0), (14, 0), (15, 0), (16, 0), (17, 0), (18, 0), (19, 0), (20, 0), (21, 0)] rfl rfl rfl ?_
        refine sd_vv rfl rfl rfl (vv_move rfl) ?_
        refine sd_vv rfl rfl rfl (vv_neq (a := x6.2) (b := 0) rfl rfl) ?_
        refine sd_split rfl rfl rfl (vv_move rfl) (fun c19 => ?_) (fun c19 => ?_)
        ·
          replace hm := ite_t (of_decide_eq_true c19) hm
          refine sd_skip rfl rfl rfl ?_
          refine sd_skip rfl rfl rfl ?_
          refine sd_vv rfl rfl rfl (vv_pickT rfl rfl) ?_
          refine sd_vv rfl rfl rfl (vv_move rfl) ?_
          refine sd_skip rfl rfl rfl ?_
          refine sd_skip rfl rfl rfl ?_
          refine sd_vv rfl rfl rfl (vv_pickT rfl rfl) ?_
          refine sd_vv rfl rfl rfl (vv_move rfl) ?_
          refine sd_skip rfl rfl rfl ?_
          refine sd_skip rfl rfl rfl ?_
          refine sd_vv rfl rfl rfl (vv_pickT rfl rfl) ?_
          refine sd_vv rfl rfl rfl (vv_move rfl) ?_
          refine sd_skip rfl rfl rfl ?_
          refine sd_skip rfl rfl rfl ?_
          refine sd_vv rfl rfl rfl (vv_pickT rfl rfl) ?_
          refine sd_vv rfl rfl rfl (vv_move rfl) ?_
          refine sd_skip rfl rfl rfl ?_
          refine sd_skip rfl rfl rfl ?_
          refine sd_vv rfl rfl rfl (vv_pickT rfl rfl) ?_
          refine sd_nil ?_
          have K_201 : Kz [] w24 w24 := (Kz.refl _ _)
          refine ⟨rfl, true, ?_, hm, K_201⟩
          repeat' first | exact trivial | refine ⟨rfl, ?_⟩
        ·
          replace hm := ite_f (of_decide_eq_false c19) hm
          refine sd_vv rfl rfl rfl (vv_move rfl) ?_
          refine sd_vv rfl rfl rfl (vv_neqU (c := x6.1) (d := 3#64) rfl rfl) ?_
          refine sd_vv rfl rfl rfl (vv_pickF rfl rfl) ?_
          refine sd_split rfl rfl rfl (vv_move rfl) (fun c20 => ?_) (fun c20 => ?_)
          ·
            replace hm := ite_t (of_decide_eq_true c20) hm
            refine sd_skip rfl rfl rfl ?_
            refine sd_skip rfl rfl rfl ?_
            refine sd_vv rfl rfl rfl (vv_pickT rfl rfl) ?_
            refine sd_vv rfl rfl rfl (vv_move rfl) ?_
            refine sd_skip rfl rfl rfl ?_
            refine sd_skip rfl rfl rfl ?_
            refine sd_vv rfl rfl rfl (vv_pickT rfl rfl) ?_
            refine sd_vv rfl rfl rfl (vv_move rfl) ?_
            refine sd_skip rfl rfl rfl ?_
            refine sd_skip rfl rfl rfl ?_
            refine sd_vv rfl rfl rfl (vv_pickT rfl rfl) ?_
            refine sd_vv rfl rfl rfl (vv_move rfl) ?_
            refine sd_skip rfl rfl rfl ?_
            refine sd_skip rfl rfl rfl ?_
            refine sd_vv rfl rfl rfl (vv_pickT rfl rfl) ?_
            refine sd_nil ?_
            have K_202 : Kz [] w24 w24 := (Kz.refl _ _)
            refine ⟨rfl, true, ?_, hm, K_202⟩
            repeat' first | exact trivial | refine ⟨rfl, ?_⟩
          ·
            replace hm := ite_f (of_decide_eq_false c20) hm
            refine sd_vv rfl rfl rfl (vv_move rfl) ?_
            refine sd_vv rfl rfl rfl (vv_neq (a := x7.2) (b := 0) rfl rfl) ?_
            refine sd_vv rfl rfl rfl (vv_pickF rfl rfl) ?_
            refine sd_split rfl rfl rfl (vv_move rfl) (fun c21 => ?_) (fun c21 => ?_)
            ·
              replace hm := ite_t (of_decide_eq_true c21) hm
              refine sd_skip rfl rfl rfl ?_
              refine sd_skip rfl rfl rfl ?_
              refine sd_vv rfl rfl rfl (vv_pickT rfl rfl) ?_
              refine sd_vv rfl rfl rfl (vv_move rfl) ?_
              refine sd_skip rfl rfl rfl ?_
              refine sd_skip rfl rfl rfl ?_
              refine sd_vv rfl rfl rfl (vv_pickT rfl rfl) ?_
              refine sd_vv rfl rfl rfl (vv_move rfl) ?_
              refine sd_skip rfl rfl rfl ?_
              refine sd_skip rfl rfl rfl ?_
              refine sd_vv rfl rfl rfl (vv_pickT rfl rfl) ?_
              refine sd_nil ?_
              have K_203 : Kz [] w24 w24 := (Kz.refl _ _)
              refine ⟨rfl, true, ?_, hm, K_203⟩
              repeat' first | exact trivial | refine ⟨rfl, ?_⟩
            ·
              replace hm := ite_f (of_decide_eq_false c21) hm
              refine sd_vv rfl rfl rfl (vv_move rfl) ?_
              refine sd_vv rfl rfl rfl (vv_neqU (c := x7.1) (d := 5#64) rfl rfl) ?_
              refine sd_vv rfl rfl rfl (vv_pickF rfl rfl) ?_
              refine sd_split rfl rfl rfl (vv_move rfl) (fun c22 => ?_) (fun c22 => ?_)
              ·
                replace hm := ite_t (of_decide_eq_true c22) hm
                refine sd_skip rfl rfl rfl ?_
                refine sd_skip rfl rfl rfl ?_
                refine sd_vv rfl rfl rfl (vv_pickT rfl rfl) ?_
                refine sd_vv rfl rfl rfl (vv_move rfl) ?_
                refine sd_skip rfl rfl rfl ?_
                refine sd_skip rfl rfl rfl ?_
                refine sd_vv rfl rfl rfl (vv_pickT rfl rfl) ?_
                refine sd_nil ?_
                have K_204 : Kz [] w24 w24 := (Kz.refl _ _)
                refine ⟨rfl, true, ?_, hm, K_204⟩
                repeat' first | exact trivial | refine ⟨rfl, ?_⟩
              ·
                replace hm := ite_f (of_decide_eq_false c22) hm
                refine sd_vv rfl rfl rfl (vv_move rfl) ?_
                refine sd_vv rfl rfl rfl (vv_neq (a := x8.2) (b := 2) rfl rfl) ?_
                refine sd_vv rfl rfl rfl (vv_pickF rfl rfl) ?_
                refine sd_split rfl rfl rfl (vv_move rfl) (fun c23 => ?_) (fun c23 => ?_)
                ·
                  replace hm := ite_t (of_decide_eq_true c23) hm
                  refine sd_skip rfl rfl rfl ?_
                  refine sd_skip rfl rfl rfl ?_
                  refine sd_vv rfl rfl rfl (vv_pickT rfl rfl) ?_
                  refine sd_nil ?_
                  have K_205 : Kz [] w24 w24 := (Kz.refl _ _)
                  refine ⟨rfl, true, ?_, hm, K_205⟩
                  repeat' first | exact trivial | refine ⟨rfl, ?_⟩
                ·
                  replace hm := ite_f (of_decide_eq_false c23) hm
                  refine sd_vv rfl rfl rfl (vv_move rfl) ?_
                  refine sd_vv rfl rfl rfl (vv_neq (a := x9.2) (b := 2) rfl rfl) ?_
                  refine sd_vv rfl rfl rfl (vv_pickF rfl rfl) ?_
                  refine sd_nil ?_
                  have K_206 : Kz [] w24 w24 := (Kz.refl _ _)
                  refine ⟨rfl, (decide (x9.2 ≠ 2)), ?_, hm, K_206⟩
                  repeat' first | exact trivial | refine ⟨rfl, ?_⟩
  ·
    -- region 5 outright.go:81
    refine sw_region [(0, 0), (1, 0), (2, 0), (3, 0), (4, 0), (5, 0), (6, 0), (7, 0), (8, 0), (9, 0), (10, 0), (11, 0), (12, 0), (13, 0), (14, 0), (15, 0), (16, 0), (17, 0), (18, 0)] rfl rfl rfl ?_
    refine sd_vv rfl rfl rfl (vv_move rfl) ?_
    have hb := bnd hm; clear hm; obtain ⟨x35, hx35, hm⟩ := hb
    refine sd_ev rfl rfl rfl (ev_call en_49 rfl (law04_alive_w _ hx35 _)) ?_
    rintro _ w80 ⟨rfl, Gw80⟩
    have z207 := Gw80.size
    refine sd_vv rfl rfl rfl (vv_not rfl) ?_
    refine sd_vv rfl rfl rfl (vv_pickF rfl rfl) ?_
    refine sd_split rfl rfl rfl (vv_move rfl) (fun c24 => ?_) (fun c24 => ?_)
    ·
      replace hm := cnd_t c24 hm
      refine sd_skip rfl rfl rfl ?_
      refine sd_skip rfl rfl rfl ?_
      refine sd_skip rfl rfl rfl ?_
      refine sd_vv rfl rfl rfl (vv_pickT rfl rfl) ?_
      refine sd_vv rfl rfl rfl (vv_move rfl) ?_
      refine sd_skip rfl rfl rfl ?_
      refine sd_skip rfl rfl rfl ?_
      refine sd_skip rfl rfl rfl ?_
      refine sd_vv rfl rfl rfl (vv_pickT rfl rfl) ?_
      refine sd_vv rfl rfl rfl (vv_move rfl) ?_
      refine sd_skip rfl rfl rfl ?_
      refine sd_skip rfl rfl rfl ?_
      refine sd_skip rfl rfl rfl ?_
      refine sd_vv rfl rfl rfl (vv_pickT rfl rfl) ?_
      refine sd_nil ?_
      have K_208 : Kz [] w15 w80 := (Kz.gr (Kz.refl _ _) Gw80)
      refine ⟨rfl, true, ?_, hm, K_208⟩
      repeat' first | exact trivial | refine ⟨rfl, ?_⟩
    ·
      replace hm := cnd_f c24 hm
      have B209 := (Bx.gr (Bx.md (Bx.md Bw13 Mw14) Mw15) Gw80)
      refine sd_vv rfl rfl rfl (vv_loadW agg_28 rfl B209 rfl) ?_
      have hb := bnd hm; clear hm; obtain ⟨x36, hx36, hm⟩ := hb
      refine sd_ev rfl rfl rfl (ev_call en_32 rfl (poly_Check_w (TScheme.mk x2.Kind x2.Depth 9 x2.Group) _ hx36 _)) ?_
      rintro _ w81 ⟨rfl, Gw81⟩
      have z210 := Gw81.size
      refine sd_vv rfl rfl rfl (vv_neq (a := x36) (b := 30) rfl rfl) ?_
      refine sd_vv rfl rfl rfl (vv_pickF rfl rfl) ?_
      refine sd_split rfl rfl rfl (vv_move rfl) (fun c25 => ?_) (fun c25 => ?_)
      ·
        replace hm := ite_t (of_decide_eq_true c25) hm
        refine sd_skip rfl rfl rfl ?_
        refine sd_skip rfl rfl rfl ?_
        refine sd_skip rfl rfl rfl ?_
        refine sd_vv rfl rfl rfl (vv_pickT rfl rfl) ?_
        refine sd_vv rfl rfl rfl (vv_move rfl) ?_
        refine sd_skip rfl rfl rfl ?_
        refine sd_skip rfl rfl rfl ?_
        refine sd_skip rfl rfl rfl ?_
        refine sd_vv rfl rfl rfl (vv_pickT rfl rfl) ?_
        refine sd_nil ?_
        have K_211 : Kz [] w15 w81 := (Kz.gr (Kz.gr (Kz.refl _ _) Gw80) Gw81)
        refine ⟨rfl, true, ?_, hm, K_211⟩
        repeat' first | exact trivial | refine ⟨rfl, ?_⟩
      ·
        replace hm := ite_f (of_decide_eq_false c25) hm
        have B212 := (Bx.gr (Bx.gr (Bx.md Bw14 Mw15) Gw80) Gw81)
        refine sd_vv rfl rfl rfl (vv_loadW agg_28 rfl B212 rfl) ?_
        have hb := bnd hm; clear hm; obtain ⟨x37, hx37, hm⟩ := hb
        refine sd_ev rfl rfl rfl (ev_call en_32 rfl (poly_Check_w (TScheme.mk x3.Kind 4 x3.Degree x3.Group) _ hx37 _)) ?_
        rintro _ w82 ⟨rfl, Gw82⟩
        have z213 := Gw82.size
        refine sd_vv rfl rfl rfl (vv_neq (a := x37) (b := 30) rfl rfl) ?_
        refine sd_vv rfl rfl rfl (vv_pickF rfl rfl) ?_
        refine sd_split rfl rfl rfl (vv_move rfl) (fun c26 => ?_) (fun c26 => ?_)
        ·
          replace hm := ite_t (of_decide_eq_true c26) hm
          refine sd_skip rfl rfl rfl ?_
          refine sd_skip rfl rfl rfl ?_
          refine sd_skip rfl rfl rfl ?_
          refine sd_vv rfl rfl rfl (vv_pickT rfl rfl) ?_
          refine sd_nil ?_
          have K_214 : Kz [] w15 w82 := (Kz.gr (Kz.gr (Kz.gr (Kz.refl _ _) Gw80) Gw81) Gw82)
          refine ⟨rfl, true, ?_, hm, K_214⟩
          repeat' first | exact trivial | refine ⟨rfl, ?_⟩
        ·
          replace hm := ite_f (of_decide_eq_false c26) hm
          have B215 := (Bx.gr (Bx.gr (Bx.gr Bw15 Gw80) Gw81) Gw82)
          refine sd_vv rfl rfl rfl (vv_loadW agg_28 rfl B215 rfl) ?_
          have hb := bnd hm; clear hm; obtain ⟨x38, hx38, hm⟩ := hb
          refine sd_ev rfl rfl rfl (ev_call en_32 rfl (poly_Check_w (TScheme.mk x4.Kind x4.Depth x4.Degree (TGroup.mk x4.Group.P x4.Group.Q 5#64)) _ hx38 _)) ?_
          rintro _ w83 ⟨rfl, Gw83⟩
          have z216 := Gw83.size
          refine sd_vv rfl rfl rfl (vv_neq (a := x38) (b := 30) rfl rfl) ?_
          refine sd_vv rfl rfl rfl (vv_pickF rfl rfl) ?_
          refine sd_nil ?_
          have K_217 : Kz [] w15 w83 := (Kz.gr (Kz.gr (Kz.gr (Kz.gr (Kz.refl _ _) Gw80) Gw81) Gw82) Gw83)
          refine ⟨rfl, (decide (x38 ≠ 30)), ?_, hm, K_217⟩
          repeat' first | exact trivial | refine ⟨rfl, ?_⟩
end Go.Proofs.Ytkdghilkigojgaa.Mx
