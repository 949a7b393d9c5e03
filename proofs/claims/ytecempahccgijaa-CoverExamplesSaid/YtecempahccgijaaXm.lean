/- Walks that follow mirrors: Xm. Printed by mx.py. -/
import Derived.Test.YtecempahccgijaaWXm
import Derived.Test.YtecempahccgijaaXmM
set_option linter.unusedVariables false
set_option linter.unusedSimpArgs false
set_option maxRecDepth 100000
namespace Go.Proofs.Ytecempahccgijaa.Mx
open Go Go.RowKit Go.Sx
theorem en_56 : En Try.prog 56 := fun _ _ => by kernel_rfl
theorem bsl_61_6 : BSl Try.prog 61 6 3 1 [.int .i64 0, .int .i64 0, .int .i64 0, .int .i64 0, .int .i64 0, .int .i64 0] := bsl_mk Try.underlying61 (one_3).siz zv_3 rfl rfl (by kernel_rfl)
theorem en_37 : En Try.prog 37 := fun _ _ => by kernel_rfl
theorem bsl_61_3 : BSl Try.prog 61 3 3 1 [.int .i64 0, .int .i64 0, .int .i64 0] := bsl_mk Try.underlying61 (one_3).siz zv_3 rfl rfl (by kernel_rfl)
theorem en_31 : En Try.prog 31 := fun _ _ => by kernel_rfl
theorem en_28 : En Try.prog 28 := fun _ _ => by kernel_rfl
theorem en_50 : En Try.prog 50 := fun _ _ => by kernel_rfl

set_option maxHeartbeats 16000000 in
theorem law03_CoverExamples_w   (r : Bool) (hm : law03_CoverExamples = some r) (w : World)   :
    Calls Try.prog 21 [].toArray w fun e w' => ∃ v, e = .returned v ∧ (v = .bool r ∧ Gr w w') := by
  unfold law03_CoverExamples at hm
  refine calls_of_sw (R := fun v w' => v = .bool r ∧ Gr w w') 317 Try.func21 rfl rfl rfl ?_
  refine sw_seq ?_
  -- region 0 outright.go:53
  refine sw_region [(0, 0)] rfl rfl rfl ?_
  refine sd_vv rfl rfl rfl (vv_assign rfl) ?_
  refine sd_done ?_
  refine sw_seq ?_
  refine sw_joinD (β := Bool) [19, 20, 21, 22, 23, 24, 25, 26, 27, 28, 29, 30, 31, 32, 33, 34, 35, 36, 37, 38, 39, 40, 41, 42, 43, 44, 45, 46, 47, 48, 49, 50, 51, 52, 53, 54, 55, 56, 57] (fun a1 => [(57, .bool a1)]) (fun a1 wr => (law03_CoverExamples_J1 a1 = some r) ∧ Kz [] w wr) ?_ ?_
  · clear hm; rintro a1 w1 ⟨hm, Kw1⟩
    have z1 := Kw1.size
    unfold law03_CoverExamples_J1 at hm
    refine sw_cond rfl (fun c1 => ?_) (fun c1 => ?_)
    ·
      replace hm := cnd_t c1 hm
      refine sw_seq ?_
      -- region 2 outright.go:57
      refine sw_region [(0, 0)] rfl rfl rfl ?_
      refine sd_vv rfl rfl rfl (vv_assign rfl) ?_
      refine sd_done ?_
      refine sw_ret ?_
      refine then_r ?_
      have X2 : Gr w w1 := (Gr.kz (Gr.refl w) Kw1)
      have hr := Option.some.inj hm
      subst hr
      refine ⟨_, _, rfl, res_1 rfl (rv_tmp rfl), ?_⟩
      exact ⟨rfl, X2⟩
    ·
      replace hm := cnd_f c1 hm
      refine sw_skip ?_
      refine then_n ?_
      refine sw_seq ?_
      have X3 : Gr w w1 := (Gr.kz (Gr.refl w) Kw1)
      refine sw_joinD (β := Bool) [58, 59, 60, 61, 62, 63, 64, 65, 66, 67, 68, 69, 70, 71, 72, 73, 74, 75, 76, 77, 78, 79, 80, 81, 82, 83, 84, 85, 86] (fun a2 => [(86, .bool a2)]) (fun a2 wr => (law03_CoverExamples_J2 a2 = some r) ∧ Kz [] w1 wr) ?_ ?_
      · clear hm; rintro a2 w2 ⟨hm, Kw2⟩
        have z4 := Kw2.size
        unfold law03_CoverExamples_J2 at hm
        refine sw_cond rfl (fun c2 => ?_) (fun c2 => ?_)
        ·
          replace hm := cnd_t c2 hm
          refine sw_seq ?_
          -- region 4 outright.go:60
          refine sw_region [(0, 0)] rfl rfl rfl ?_
          refine sd_vv rfl rfl rfl (vv_assign rfl) ?_
          refine sd_done ?_
          refine sw_ret ?_
          refine then_r ?_
          have X5 : Gr w w2 := (Gr.kz X3 Kw2)
          have hr := Option.some.inj hm
          subst hr
          refine ⟨_, _, rfl, res_1 rfl (rv_tmp rfl), ?_⟩
          exact ⟨rfl, X5⟩
        ·
          replace hm := cnd_f c2 hm
          refine sw_skip ?_
          refine then_n ?_
          refine sw_seq ?_
          have X6 : Gr w w2 := (Gr.kz X3 Kw2)
          refine sw_joinD (β := Bool) [87, 88, 89, 90, 91, 92, 93, 94, 95, 96, 97, 98, 99, 100, 101, 102, 103, 104, 105, 106, 107, 108, 109, 110, 111, 112] (fun a3 => [(112, .bool a3)]) (fun a3 wr => (law03_CoverExamples_J3 a3 = some r) ∧ Kz [] w2 wr) ?_ ?_
          · clear hm; rintro a3 w3 ⟨hm, Kw3⟩
            have z7 := Kw3.size
            unfold law03_CoverExamples_J3 at hm
            refine sw_cond rfl (fun c3 => ?_) (fun c3 => ?_)
            ·
              replace hm := cnd_t c3 hm
              refine sw_seq ?_
              -- region 6 outright.go:63
              refine sw_region [(0, 0)] rfl rfl rfl ?_
              refine sd_vv rfl rfl rfl (vv_assign rfl) ?_
              refine sd_done ?_
              refine sw_ret ?_
              refine then_r ?_
              have X8 : Gr w w3 := (Gr.kz X6 Kw3)
              have hr := Option.some.inj hm
              subst hr
              refine ⟨_, _, rfl, res_1 rfl (rv_tmp rfl), ?_⟩
              exact ⟨rfl, X8⟩
            ·
              replace hm := cnd_f c3 hm
              refine sw_skip ?_
              refine then_n ?_
              refine sw_seq ?_
              -- region 7 outright.go:65
              refine sw_region [(0, 0), (1, 0), (2, 0), (3, 0), (4, 0), (5, 0), (6, 0), (7, 0)] rfl rfl rfl ?_
              have hb := bnd hm; clear hm; obtain ⟨x4, hx4, hm⟩ := hb
              refine sd_ev rfl rfl rfl (ev_call en_58 rfl (law03_of_w 2#8 3 _ hx4 _)) ?_
              rintro _ w4 ⟨rfl, Gw4⟩
              have z9 := Gw4.size
              refine sd_vv rfl rfl rfl (vv_build (cs := TSubset.cs (TSubset.mk 1 5)) bs_47 rfl rfl) ?_
              have hb := bnd hm; clear hm; obtain ⟨x5, hx5, hm⟩ := hb
              refine sd_ev rfl rfl rfl (ev_call en_35 rfl (cover_Members_w x4 (TSubset.mk 1 5) _ hx5 _)) ?_
              rintro _ w5 ⟨u5_r0_s, z5_r0_s, g5_r0_s, rfl, O5_r0_s, f5_r0_s, Gw5⟩
              have z10 := Gw5.size
              have lt11 := O5_r0_s.lth
              refine sd_vv rfl rfl rfl (vv_move rfl) ?_
              refine sd_vv rfl rfl rfl (vv_extract rfl rfl) ?_
              refine sd_vv rfl rfl rfl (vv_extract rfl rfl) ?_
              refine sd_vv rfl rfl rfl (vv_assign rfl) ?_
              refine sd_vv rfl rfl rfl (vv_assign rfl) ?_
              refine sd_done ?_
              refine sw_seq ?_
              -- region 8 outright.go:66
              refine sw_region [(0, 0), (1, 0), (2, 0), (3, 0), (4, 0), (5, 0), (6, 0), (7, 0)] rfl rfl rfl ?_
              have hb := bnd hm; clear hm; obtain ⟨x6, hx6, hm⟩ := hb
              refine sd_ev rfl rfl rfl (ev_call en_58 rfl (law03_of_w 2#8 3 _ hx6 _)) ?_
              rintro _ w6 ⟨rfl, Gw6⟩
              have z12 := Gw6.size
              refine sd_vv rfl rfl rfl (vv_build (cs := TSubset.cs (TSubset.mk 2 8)) bs_47 rfl rfl) ?_
              have hb := bnd hm; clear hm; obtain ⟨x7, hx7, hm⟩ := hb
              refine sd_ev rfl rfl rfl (ev_call en_35 rfl (cover_Members_w x6 (TSubset.mk 2 8) _ hx7 _)) ?_
              rintro _ w7 ⟨u7_r0_s, z7_r0_s, g7_r0_s, rfl, O7_r0_s, f7_r0_s, Gw7⟩
              have z13 := Gw7.size
              have lt14 := O7_r0_s.lth
              refine sd_vv rfl rfl rfl (vv_move rfl) ?_
              refine sd_vv rfl rfl rfl (vv_extract rfl rfl) ?_
              refine sd_vv rfl rfl rfl (vv_extract rfl rfl) ?_
              refine sd_vv rfl rfl rfl (vv_assign rfl) ?_
              refine sd_vv rfl rfl rfl (vv_assign rfl) ?_
              refine sd_done ?_
              refine sw_seq ?_
              have X15 : Gr w w7 := (Gr.trans (Gr.trans (Gr.trans (Gr.trans (Gr.kz X6 Kw3) Gw4) Gw5) Gw6) Gw7)
              refine sw_joinD (β := Bool) [125, 126, 127, 128, 129, 130, 131, 132, 133, 134, 135, 136, 137, 138, 139, 140, 141, 142] (fun a8 => [(142, .bool a8)]) (fun a8 wr => (law03_CoverExamples_J4 a8 = some r) ∧ Kz [] w7 wr) ?_ ?_
              · clear hm; rintro a8 w8 ⟨hm, Kw8⟩
                have z16 := Kw8.size
                unfold law03_CoverExamples_J4 at hm
                refine sw_cond rfl (fun c4 => ?_) (fun c4 => ?_)
                ·
                  replace hm := cnd_t c4 hm
                  refine sw_seq ?_
                  -- region 10 outright.go:68
                  refine sw_region [(0, 0)] rfl rfl rfl ?_
                  refine sd_vv rfl rfl rfl (vv_assign rfl) ?_
                  refine sd_done ?_
                  refine sw_ret ?_
                  refine then_r ?_
                  have X17 : Gr w w8 := (Gr.kz X15 Kw8)
                  have hr := Option.some.inj hm
                  subst hr
                  refine ⟨_, _, rfl, res_1 rfl (rv_tmp rfl), ?_⟩
                  exact ⟨rfl, X17⟩
                ·
                  replace hm := cnd_f c4 hm
                  refine sw_skip ?_
                  refine then_n ?_
                  refine sw_seq ?_
                  -- region 11 outright.go:70
                  refine sw_region [(0, 0), (1, 0), (2, 0), (3, 0), (4, 0), (5, 0), (6, 0)] rfl rfl rfl ?_
                  have hb := bnd hm; clear hm; obtain ⟨x9, hx9, hm⟩ := hb
                  refine sd_ev rfl rfl rfl (ev_call en_58 rfl (law03_of_w 1#8 3 _ hx9 _)) ?_
                  rintro _ w9 ⟨rfl, Gw9⟩
                  have z18 := Gw9.size
                  have hb := bnd hm; clear hm; obtain ⟨x10, hx10, hm⟩ := hb
                  refine sd_ev rfl rfl rfl (ev_call en_31 rfl (cover_Storage_w x9 _ hx10 _)) ?_
                  rintro _ w10 ⟨rfl, Gw10⟩
                  have z19 := Gw10.size
                  refine sd_vv rfl rfl rfl (vv_move rfl) ?_
                  refine sd_vv rfl rfl rfl (vv_extract rfl rfl) ?_
                  refine sd_vv rfl rfl rfl (vv_extract rfl rfl) ?_
                  refine sd_vv rfl rfl rfl (vv_assign rfl) ?_
                  refine sd_vv rfl rfl rfl (vv_assign rfl) ?_
                  refine sd_done ?_
                  refine sw_seq ?_
                  -- region 12 outright.go:71
                  refine sw_region [(0, 0), (1, 0), (2, 0), (3, 0), (4, 0), (5, 0), (6, 0)] rfl rfl rfl ?_
                  have hb := bnd hm; clear hm; obtain ⟨x11, hx11, hm⟩ := hb
                  refine sd_ev rfl rfl rfl (ev_call en_58 rfl (law03_of_w 2#8 3 _ hx11 _)) ?_
                  rintro _ w11 ⟨rfl, Gw11⟩
                  have z20 := Gw11.size
                  have hb := bnd hm; clear hm; obtain ⟨x12, hx12, hm⟩ := hb
                  refine sd_ev rfl rfl rfl (ev_call en_31 rfl (cover_Storage_w x11 _ hx12 _)) ?_
                  rintro _ w12 ⟨rfl, Gw12⟩
                  have z21 := Gw12.size
                  refine sd_vv rfl rfl rfl (vv_move rfl) ?_
                  refine sd_vv rfl rfl rfl (vv_extract rfl rfl) ?_
                  refine sd_vv rfl rfl rfl (vv_extract rfl rfl) ?_
                  refine sd_vv rfl rfl rfl (vv_assign rfl) ?_
                  refine sd_vv rfl rfl rfl (vv_assign rfl) ?_
                  refine sd_done ?_
                  refine sw_seq ?_
                  -- region 13 outright.go:72
                  refine sw_region [(0, 0), (1, 0), (2, 0), (3, 0), (4, 0), (5, 0), (6, 0)] rfl rfl rfl ?_
                  have hb := bnd hm; clear hm; obtain ⟨x13, hx13, hm⟩ := hb
                  refine sd_ev rfl rfl rfl (ev_call en_58 rfl (law03_of_w 3#8 3 _ hx13 _)) ?_
                  rintro _ w13 ⟨rfl, Gw13⟩
                  have z22 := Gw13.size
                  have hb := bnd hm; clear hm; obtain ⟨x14, hx14, hm⟩ := hb
                  refine sd_ev rfl rfl rfl (ev_call en_31 rfl (cover_Storage_w x13 _ hx14 _)) ?_
                  rintro _ w14 ⟨rfl, Gw14⟩
                  have z23 := Gw14.size
                  refine sd_vv rfl rfl rfl (vv_move rfl) ?_
                  refine sd_vv rfl rfl rfl (vv_extract rfl rfl) ?_
                  refine sd_vv rfl rfl rfl (vv_extract rfl rfl) ?_
                  refine sd_vv rfl rfl rfl (vv_assign rfl) ?_
                  refine sd_vv rfl rfl rfl (vv_assign rfl) ?_
                  refine sd_done ?_
                  refine sw_seq ?_
                  have X24 : Gr w w14 := (Gr.trans (Gr.trans (Gr.trans (Gr.trans (Gr.trans (Gr.trans (Gr.kz X15 Kw8) Gw9) Gw10) Gw11) Gw12) Gw13) Gw14)
                  refine sw_joinD (β := Bool) [2, 4, 158, 159, 160, 161, 162, 163, 164, 165, 166, 167, 168, 169, 170, 171, 172, 173, 174, 175, 176, 177, 178, 179] (fun a15 => [(2, .int .i64 x10.2), (4, .int .i64 x12.2), (179, .bool a15)]) (fun a15 wr => (law03_CoverExamples_J5 a15 = some r) ∧ Kz [] w14 wr) ?_ ?_
                  · clear hm; rintro a15 w15 ⟨hm, Kw15⟩
                    have z25 := Kw15.size
                    unfold law03_CoverExamples_J5 at hm
                    refine sw_cond rfl (fun c5 => ?_) (fun c5 => ?_)
                    ·
                      replace hm := cnd_t c5 hm
                      refine sw_seq ?_
                      -- region 15 outright.go:74
                      refine sw_region [(0, 0)] rfl rfl rfl ?_
                      refine sd_vv rfl rfl rfl (vv_assign rfl) ?_
                      refine sd_done ?_
                      refine sw_ret ?_
                      refine then_r ?_
                      have X26 : Gr w w15 := (Gr.kz X24 Kw15)
                      have hr := Option.some.inj hm
                      subst hr
                      refine ⟨_, _, rfl, res_1 rfl (rv_tmp rfl), ?_⟩
                      exact ⟨rfl, X26⟩
                    ·
                      replace hm := cnd_f c5 hm
                      refine sw_skip ?_
                      refine then_n ?_
                      refine sw_seq ?_
                      -- region 16 outright.go:76
                      refine sw_region [(0, 0), (1, 0), (2, 0)] rfl rfl rfl ?_
                      have hb := bnd hm; clear hm; obtain ⟨x16, hx16, hm⟩ := hb
                      refine sd_ev rfl rfl rfl (ev_call en_58 rfl (law03_of_w 2#8 3 _ hx16 _)) ?_
                      rintro _ w16 ⟨rfl, Gw16⟩
                      have z27 := Gw16.size
                      refine sd_ev rfl rfl rfl (ev_alloc (cs := TScheme.cs (TScheme.mk 0#8 0 0 (TGroup.mk 0#64 0#64 0#64))) zv_45 rfl) ?_
                      rintro _ w17 ⟨b17, rfl, hbw17, Bw17, Gw17⟩
                      have z28 := Gw17.size
                      have lt29 := Bw17.lt
                      refine sd_ev rfl rfl rfl (ev_stM (cs' := TScheme.cs x16) (vs := TScheme.cs x16) (agg_45).siz rfl rfl rfl rfl rfl Bw17 rfl rfl) ?_
                      rintro _ w18 ⟨Bw18, Mw18⟩
                      have z30 := Mw18.size
                      refine sd_done ?_
                      refine sw_seq ?_
                      -- region 17 outright.go:77
                      refine sw_region [(0, 0), (1, 0), (2, 0), (3, 0), (4, 0), (5, 0), (6, 0), (7, 0)] rfl rfl rfl ?_
                      refine sd_vv rfl rfl rfl (vv_loadW agg_45 rfl Bw18 rfl) ?_
                      refine sd_vv rfl rfl rfl (vv_build (cs := TSubset.cs (TSubset.mk 1 5)) bs_47 rfl rfl) ?_
                      have hb := bnd hm; clear hm; obtain ⟨x17, hx17, hm⟩ := hb
                      refine sd_ev rfl rfl rfl (ev_call en_28 rfl (cover_Split_w x16 (TSubset.mk 1 5) _ hx17 _)) ?_
                      rintro _ w19 ⟨u19_r0_s, z19_r0_s, g19_r0_s, rfl, O19_r0_s, f19_r0_s, Gw19⟩
                      have z31 := Gw19.size
                      have lt32 := O19_r0_s.lth
                      refine sd_vv rfl rfl rfl (vv_move rfl) ?_
                      refine sd_vv rfl rfl rfl (vv_extract rfl rfl) ?_
                      refine sd_vv rfl rfl rfl (vv_extract rfl rfl) ?_
                      refine sd_vv rfl rfl rfl (vv_assign rfl) ?_
                      refine sd_vv rfl rfl rfl (vv_assign rfl) ?_
                      refine sd_done ?_
                      refine sw_seq ?_
                      -- region 18 outright.go:78
                      refine sw_region [(0, 0), (1, 0), (2, 0), (3, 0), (4, 0), (5, 0), (6, 0), (7, 0)] rfl rfl rfl ?_
                      have B33 := (Bx.gr Bw18 Gw19)
                      refine sd_vv rfl rfl rfl (vv_loadW agg_45 rfl B33 rfl) ?_
                      refine sd_vv rfl rfl rfl (vv_build (cs := TSubset.cs (TSubset.mk 1 2)) bs_47 rfl rfl) ?_
                      have hb := bnd hm; clear hm; obtain ⟨x18, hx18, hm⟩ := hb
                      refine sd_ev rfl rfl rfl (ev_call en_28 rfl (cover_Split_w x16 (TSubset.mk 1 2) _ hx18 _)) ?_
                      rintro _ w20 ⟨u20_r0_s, z20_r0_s, g20_r0_s, rfl, O20_r0_s, f20_r0_s, Gw20⟩
                      have z34 := Gw20.size
                      have lt35 := O20_r0_s.lth
                      refine sd_vv rfl rfl rfl (vv_move rfl) ?_
                      refine sd_vv rfl rfl rfl (vv_extract rfl rfl) ?_
                      refine sd_vv rfl rfl rfl (vv_extract rfl rfl) ?_
                      refine sd_vv rfl rfl rfl (vv_assign rfl) ?_
                      refine sd_vv rfl rfl rfl (vv_assign rfl) ?_
                      refine sd_done ?_
                      refine sw_seq ?_
                      -- region 19 outright.go:79
                      refine sw_region [(0, 0), (1, 0), (2, 0), (3, 0), (4, 0), (5, 0), (6, 0), (7, 0)] rfl rfl rfl ?_
                      have B36 := (Bx.gr B33 Gw20)
                      refine sd_vv rfl rfl rfl (vv_loadW agg_45 rfl B36 rfl) ?_
                      refine sd_vv rfl rfl rfl (vv_build (cs := TSubset.cs (TSubset.mk 2 4)) bs_47 rfl rfl) ?_
                      have hb := bnd hm; clear hm; obtain ⟨x19, hx19, hm⟩ := hb
                      refine sd_ev rfl rfl rfl (ev_call en_28 rfl (cover_Split_w x16 (TSubset.mk 2 4) _ hx19 _)) ?_
                      rintro _ w21 ⟨u21_r0_s, z21_r0_s, g21_r0_s, rfl, O21_r0_s, f21_r0_s, Gw21⟩
                      have z37 := Gw21.size
                      have lt38 := O21_r0_s.lth
                      refine sd_vv rfl rfl rfl (vv_move rfl) ?_
                      refine sd_vv rfl rfl rfl (vv_extract rfl rfl) ?_
                      refine sd_vv rfl rfl rfl (vv_extract rfl rfl) ?_
                      refine sd_vv rfl rfl rfl (vv_assign rfl) ?_
                      refine sd_vv rfl rfl rfl (vv_assign rfl) ?_
                      refine sd_done ?_
                      refine sw_seq ?_
                      -- region 20 outright.go:80
                      refine sw_region [(0, 0), (1, 0), (2, 0), (3, 0), (4, 0), (5, 0), (6, 0), (7, 0)] rfl rfl rfl ?_
                      have B39 := (Bx.gr B36 Gw21)
                      refine sd_vv rfl rfl rfl (vv_loadW agg_45 rfl B39 rfl) ?_
                      refine sd_vv rfl rfl rfl (vv_build (cs := TSubset.cs (TSubset.mk 1 0)) bs_47 rfl rfl) ?_
                      have hb := bnd hm; clear hm; obtain ⟨x20, hx20, hm⟩ := hb
                      refine sd_ev rfl rfl rfl (ev_call en_28 rfl (cover_Split_w x16 (TSubset.mk 1 0) _ hx20 _)) ?_
                      rintro _ w22 ⟨u22_r0_s, z22_r0_s, g22_r0_s, rfl, O22_r0_s, f22_r0_s, Gw22⟩
                      have z40 := Gw22.size
                      have lt41 := O22_r0_s.lth
                      refine sd_vv rfl rfl rfl (vv_move rfl) ?_
                      refine sd_vv rfl rfl rfl (vv_extract rfl rfl) ?_
                      refine sd_vv rfl rfl rfl (vv_extract rfl rfl) ?_
                      refine sd_vv rfl rfl rfl (vv_assign rfl) ?_
                      refine sd_vv rfl rfl rfl (vv_assign rfl) ?_
                      refine sd_done ?_
                      refine sw_seq ?_
                      -- region 21 outright.go:81
                      refine sw_region [(0, 0), (1, 0), (2, 0), (3, 0), (4, 0), (5, 0), (6, 0), (7, 0)] rfl rfl rfl ?_
                      have B42 := (Bx.gr B39 Gw22)
                      refine sd_vv rfl rfl rfl (vv_loadW agg_45 rfl B42 rfl) ?_
                      refine sd_vv rfl rfl rfl (vv_build (cs := TSubset.cs (TSubset.mk 4 8)) bs_47 rfl rfl) ?_
                      have hb := bnd hm; clear hm; obtain ⟨x21, hx21, hm⟩ := hb
                      refine sd_ev rfl rfl rfl (ev_call en_28 rfl (cover_Split_w x16 (TSubset.mk 4 8) _ hx21 _)) ?_
                      rintro _ w23 ⟨u23_r0_s, z23_r0_s, g23_r0_s, rfl, O23_r0_s, f23_r0_s, Gw23⟩
                      have z43 := Gw23.size
                      have lt44 := O23_r0_s.lth
                      refine sd_vv rfl rfl rfl (vv_move rfl) ?_
                      refine sd_vv rfl rfl rfl (vv_extract rfl rfl) ?_
                      refine sd_vv rfl rfl rfl (vv_extract rfl rfl) ?_
                      refine sd_vv rfl rfl rfl (vv_assign rfl) ?_
                      refine sd_vv rfl rfl rfl (vv_assign rfl) ?_
                      refine sd_done ?_
                      refine sw_seq ?_
                      have X45 : Gr w w23 := (Gr.trans (Gr.trans (Gr.trans (Gr.trans (Gr.trans (Gr.md (Gr.trans (Gr.trans (Gr.kz X24 Kw15) Gw16) Gw17) Mw18) Gw19) Gw20) Gw21) Gw22) Gw23)
                      refine sw_joinD (β := Bool) [2, 4, 8, 211, 212, 213, 214, 215, 216, 217, 218, 219, 220, 221, 222, 223, 224, 225, 226, 227, 228, 229, 230, 231, 232, 233, 234, 235, 236, 237, 238, 239, 240] (fun a22 => [(2, .int .i64 x17.2), (4, .int .i64 x18.2), (8, .int .i64 x19.2), (240, .bool a22)]) (fun a22 wr => (law03_CoverExamples_J6 x16 a22 = some r) ∧ Kz [] w23 wr) ?_ ?_
                      · clear hm; rintro a22 w24 ⟨hm, Kw24⟩
                        have z46 := Kw24.size
                        unfold law03_CoverExamples_J6 at hm
                        refine sw_cond rfl (fun c6 => ?_) (fun c6 => ?_)
                        ·
                          replace hm := cnd_t c6 hm
                          refine sw_seq ?_
                          -- region 23 outright.go:83
                          refine sw_region [(0, 0)] rfl rfl rfl ?_
                          refine sd_vv rfl rfl rfl (vv_assign rfl) ?_
                          refine sd_done ?_
                          refine sw_ret ?_
                          refine then_r ?_
                          have X47 : Gr w w24 := (Gr.kz X45 Kw24)
                          have hr := Option.some.inj hm
                          subst hr
                          refine ⟨_, _, rfl, res_1 rfl (rv_tmp rfl), ?_⟩
                          exact ⟨rfl, X47⟩
                        ·
                          replace hm := cnd_f c6 hm
                          refine sw_skip ?_
                          refine then_n ?_
                          refine sw_seq ?_
                          -- region 24 outright.go:85
                          refine sw_region [(0, 0), (1, 0), (2, 0), (3, 0), (4, 0), (5, 0), (6, 0), (7, 0)] rfl rfl rfl ?_
                          have B48 := (Bx.kz (Bx.gr B42 Gw23) Kw24)
                          refine sd_vv rfl rfl rfl (vv_loadW agg_45 rfl B48 rfl) ?_
                          refine sd_vv rfl rfl rfl (vv_build (cs := TSubset.cs (TSubset.mk 1 12)) bs_47 rfl rfl) ?_
                          have hb := bnd hm; clear hm; obtain ⟨x23, hx23, hm⟩ := hb
                          refine sd_ev rfl rfl rfl (ev_call en_50 rfl (cover_Work_w x16 0 (TSubset.mk 1 12) _ hx23 _)) ?_
                          rintro _ w25 ⟨rfl, Gw25⟩
                          have z49 := Gw25.size
                          refine sd_vv rfl rfl rfl (vv_move rfl) ?_
                          refine sd_vv rfl rfl rfl (vv_extract rfl rfl) ?_
                          refine sd_vv rfl rfl rfl (vv_extract rfl rfl) ?_
                          refine sd_vv rfl rfl rfl (vv_assign rfl) ?_
                          refine sd_vv rfl rfl rfl (vv_assign rfl) ?_
                          refine sd_done ?_
                          refine sw_seq ?_
                          -- region 25 outright.go:86
                          refine sw_region [(0, 0), (1, 0), (2, 0), (3, 0), (4, 0), (5, 0), (6, 0), (7, 0)] rfl rfl rfl ?_
                          have B50 := (Bx.gr B48 Gw25)
                          refine sd_vv rfl rfl rfl (vv_loadW agg_45 rfl B50 rfl) ?_
                          refine sd_vv rfl rfl rfl (vv_build (cs := TSubset.cs (TSubset.mk 1 3)) bs_47 rfl rfl) ?_
                          have hb := bnd hm; clear hm; obtain ⟨x24, hx24, hm⟩ := hb
                          refine sd_ev rfl rfl rfl (ev_call en_50 rfl (cover_Work_w x16 0 (TSubset.mk 1 3) _ hx24 _)) ?_
                          rintro _ w26 ⟨rfl, Gw26⟩
                          have z51 := Gw26.size
                          refine sd_vv rfl rfl rfl (vv_move rfl) ?_
                          refine sd_vv rfl rfl rfl (vv_extract rfl rfl) ?_
                          refine sd_vv rfl rfl rfl (vv_extract rfl rfl) ?_
                          refine sd_vv rfl rfl rfl (vv_assign rfl) ?_
                          refine sd_vv rfl rfl rfl (vv_assign rfl) ?_
                          refine sd_done ?_
                          refine sw_seq ?_
                          -- region 26 outright.go:87
                          refine sw_region [(0, 0), (1, 0), (2, 0), (3, 0), (4, 0), (5, 0), (6, 0)] rfl rfl rfl ?_
                          have B52 := (Bx.gr B50 Gw26)
                          refine sd_vv rfl rfl rfl (vv_loadW agg_45 rfl B52 rfl) ?_
                          refine sd_vv rfl rfl rfl (vv_build (cs := TSubset.cs (TSubset.mk 1 5)) bs_47 rfl rfl) ?_
                          have hb := bnd hm; clear hm; obtain ⟨x25, hx25, hm⟩ := hb
                          refine sd_ev rfl rfl rfl (ev_call en_50 rfl (cover_Work_w x16 2 (TSubset.mk 1 5) _ hx25 _)) ?_
                          rintro _ w27 ⟨rfl, Gw27⟩
                          have z53 := Gw27.size
                          refine sd_vv rfl rfl rfl (vv_move rfl) ?_
                          refine sd_vv rfl rfl rfl (vv_extract rfl rfl) ?_
                          refine sd_vv rfl rfl rfl (vv_extract rfl rfl) ?_
                          refine sd_vv rfl rfl rfl (vv_assign rfl) ?_
                          refine sd_done ?_
                          refine sw_seq ?_
                          -- region 27 outright.go:88
                          refine sw_region [(0, 0), (1, 0), (2, 0), (3, 0), (4, 0), (5, 0), (6, 0)] rfl rfl rfl ?_
                          have B54 := (Bx.gr B52 Gw27)
                          refine sd_vv rfl rfl rfl (vv_loadW agg_45 rfl B54 rfl) ?_
                          refine sd_ev rfl rfl rfl (ev_litT [3, 1] ic bsl_61_2 rfl rfl (ws_of rfl) rfl rfl rfl) ?_
                          rintro vw28 w28 ⟨gw28, hbw28, Ow28, Gw28⟩
                          have z55 := Gw28.size
                          have lt56 := Ow28.lth
                          have hb := bnd hm; clear hm; obtain ⟨x26, hx26, hm⟩ := hb
                          refine sd_ev rfl rfl rfl (ev_call en_54 rfl (cover_Cover_w x16 [3, 1] _ _ _ _ _ hx26 _ (Own.rd Ow28))) ?_
                          rintro _ w29 ⟨u29_r0_s, z29_r0_s, g29_r0_s, rfl, O29_r0_s, f29_r0_s, Gw29⟩
                          have z57 := Gw29.size
                          have lt58 := O29_r0_s.lth
                          refine sd_vv rfl rfl rfl (vv_move rfl) ?_
                          refine sd_vv rfl rfl rfl (vv_extract rfl rfl) ?_
                          refine sd_vv rfl rfl rfl (vv_extract rfl rfl) ?_
                          refine sd_vv rfl rfl rfl (vv_assign rfl) ?_
                          refine sd_done ?_
                          refine sw_seq ?_
                          -- region 28 outright.go:89
                          refine sw_region [(0, 0), (1, 0), (2, 0), (3, 0), (4, 0), (5, 0), (6, 0)] rfl rfl rfl ?_
                          have B59 := (Bx.gr (Bx.gr B54 Gw28) Gw29)
                          refine sd_vv rfl rfl rfl (vv_loadW agg_45 rfl B59 rfl) ?_
                          refine sd_vv rfl rfl rfl (vv_build (cs := TSubset.cs (TSubset.mk 2 3)) bs_47 rfl rfl) ?_
                          have hb := bnd hm; clear hm; obtain ⟨x27, hx27, hm⟩ := hb
                          refine sd_ev rfl rfl rfl (ev_call en_35 rfl (cover_Members_w x16 (TSubset.mk 2 3) _ hx27 _)) ?_
                          rintro _ w30 ⟨u30_r0_s, z30_r0_s, g30_r0_s, rfl, O30_r0_s, f30_r0_s, Gw30⟩
                          have z60 := Gw30.size
                          have lt61 := O30_r0_s.lth
                          refine sd_vv rfl rfl rfl (vv_move rfl) ?_
                          refine sd_vv rfl rfl rfl (vv_extract rfl rfl) ?_
                          refine sd_vv rfl rfl rfl (vv_extract rfl rfl) ?_
                          refine sd_vv rfl rfl rfl (vv_assign rfl) ?_
                          refine sd_done ?_
                          refine sw_seq ?_
                          -- region 29 outright.go:90
                          refine sw_region [(0, 0), (1, 0), (2, 0), (3, 0), (4, 0), (5, 0), (6, 0), (7, 0)] rfl rfl rfl ?_
                          have hb := bnd hm; clear hm; obtain ⟨x28, hx28, hm⟩ := hb
                          refine sd_ev rfl rfl rfl (ev_call en_58 rfl (law03_of_w 3#8 6 _ hx28 _)) ?_
                          rintro _ w31 ⟨rfl, Gw31⟩
                          have z62 := Gw31.size
                          refine sd_vv rfl rfl rfl (vv_build (cs := TSubset.cs (TSubset.mk 2 16)) bs_47 rfl rfl) ?_
                          have hb := bnd hm; clear hm; obtain ⟨x29, hx29, hm⟩ := hb
                          refine sd_ev rfl rfl rfl (ev_call en_35 rfl (cover_Members_w x28 (TSubset.mk 2 16) _ hx29 _)) ?_
                          rintro _ w32 ⟨u32_r0_s, z32_r0_s, g32_r0_s, rfl, O32_r0_s, f32_r0_s, Gw32⟩
                          have z63 := Gw32.size
                          have lt64 := O32_r0_s.lth
                          refine sd_vv rfl rfl rfl (vv_move rfl) ?_
                          refine sd_vv rfl rfl rfl (vv_extract rfl rfl) ?_
                          refine sd_vv rfl rfl rfl (vv_extract rfl rfl) ?_
                          refine sd_vv rfl rfl rfl (vv_assign rfl) ?_
                          refine sd_vv rfl rfl rfl (vv_assign rfl) ?_
                          refine sd_done ?_
                          refine sw_seq ?_
                          -- region 30 outright.go:91
                          refine sw_region [(0, 0), (1, 0), (2, 0), (3, 0), (4, 0), (5, 0), (6, 0), (7, 0), (8, 0), (9, 0), (10, 0), (11, 0), (12, 0), (13, 0), (14, 0), (15, 0), (16, 0), (17, 0), (18, 0), (19, 0), (20, 0), (21, 0), (22, 0), (23, 0), (24, 0), (25, 0), (26, 0), (27, 0), (28, 0), (29, 0), (30, 0), (31, 0), (32, 0), (33, 0), (34, 0), (35, 0), (36, 0), (37, 0), (38, 0), (39, 0), (40, 0)] rfl rfl rfl ?_
                          refine sd_vv rfl rfl rfl (vv_move rfl) ?_
                          refine sd_vv rfl rfl rfl (vv_eql (a := x23.2) (b := 0) rfl rfl) ?_
                          refine sd_split rfl rfl rfl (vv_move rfl) (fun c7 => ?_) (fun c7 => ?_)
                          ·
                            replace hm := ite_t (of_decide_eq_true c7) hm
                            refine sd_vv rfl rfl rfl (vv_move rfl) ?_
                            refine sd_vv rfl rfl rfl (vv_eql (a := x23.1) (b := 3) rfl rfl) ?_
                            refine sd_vv rfl rfl rfl (vv_pickT rfl rfl) ?_
                            refine sd_split rfl rfl rfl (vv_move rfl) (fun c8 => ?_) (fun c8 => ?_)
                            ·
                              replace hm := ite_t (of_decide_eq_true c8) hm
                              refine sd_vv rfl rfl rfl (vv_move rfl) ?_
                              refine sd_vv rfl rfl rfl (vv_eql (a := x24.2) (b := 0) rfl rfl) ?_
                              refine sd_vv rfl rfl rfl (vv_pickT rfl rfl) ?_
                              refine sd_split rfl rfl rfl (vv_move rfl) (fun c9 => ?_) (fun c9 => ?_)
                              ·
                                replace hm := ite_t (of_decide_eq_true c9) hm
                                refine sd_vv rfl rfl rfl (vv_move rfl) ?_
                                refine sd_vv rfl rfl rfl (vv_eql (a := x24.1) (b := 1) rfl rfl) ?_
                                refine sd_vv rfl rfl rfl (vv_pickT rfl rfl) ?_
                                refine sd_split rfl rfl rfl (vv_move rfl) (fun c10 => ?_) (fun c10 => ?_)
                                ·
                                  replace hm := ite_t (of_decide_eq_true c10) hm
                                  refine sd_vv rfl rfl rfl (vv_move rfl) ?_
                                  refine sd_vv rfl rfl rfl (vv_eql (a := x25.2) (b := 6) rfl rfl) ?_
                                  refine sd_vv rfl rfl rfl (vv_pickT rfl rfl) ?_
                                  refine sd_split rfl rfl rfl (vv_move rfl) (fun c11 => ?_) (fun c11 => ?_)
                                  ·
                                    replace hm := ite_t (of_decide_eq_true c11) hm
                                    refine sd_vv rfl rfl rfl (vv_move rfl) ?_
                                    refine sd_vv rfl rfl rfl (vv_eql (a := x26.2) (b := 2) rfl rfl) ?_
                                    refine sd_vv rfl rfl rfl (vv_pickT rfl rfl) ?_
                                    refine sd_split rfl rfl rfl (vv_move rfl) (fun c12 => ?_) (fun c12 => ?_)
                                    ·
                                      replace hm := ite_t (of_decide_eq_true c12) hm
                                      refine sd_vv rfl rfl rfl (vv_move rfl) ?_
                                      refine sd_vv rfl rfl rfl (vv_eql (a := x27.2) (b := 31) rfl rfl) ?_
                                      refine sd_vv rfl rfl rfl (vv_pickT rfl rfl) ?_
                                      refine sd_split rfl rfl rfl (vv_move rfl) (fun c13 => ?_) (fun c13 => ?_)
                                      ·
                                        replace hm := ite_t (of_decide_eq_true c13) hm
                                        refine sd_vv rfl rfl rfl (vv_move rfl) ?_
                                        refine sd_vv rfl rfl rfl (vv_eql (a := x29.2) (b := 31) rfl rfl) ?_
                                        refine sd_vv rfl rfl rfl (vv_pickT rfl rfl) ?_
                                        refine sd_split rfl rfl rfl (vv_move rfl) (fun c14 => ?_) (fun c14 => ?_)
                                        ·
                                          replace hm := ite_t (of_decide_eq_true c14) hm
                                          have hb := bnd hm; clear hm; obtain ⟨x30, hx30, hm⟩ := hb
                                          refine sd_ev rfl rfl rfl (ev_call en_58 rfl (law03_of_w 1#8 7 _ hx30 _)) ?_
                                          rintro _ w33 ⟨rfl, Gw33⟩
                                          have z65 := Gw33.size
                                          have hb := bnd hm; clear hm; obtain ⟨x31, hx31, hm⟩ := hb
                                          refine sd_ev rfl rfl rfl (ev_call en_33 rfl (cover_Check_w x30 _ hx31 _)) ?_
                                          rintro _ w34 ⟨rfl, Gw34⟩
                                          have z66 := Gw34.size
                                          refine sd_vv rfl rfl rfl (vv_eql (a := x31) (b := 30) rfl rfl) ?_
                                          refine sd_vv rfl rfl rfl (vv_pickT rfl rfl) ?_
                                          refine sd_split rfl rfl rfl (vv_move rfl) (fun c15 => ?_) (fun c15 => ?_)
                                          ·
                                            replace hm := ite_t (of_decide_eq_true c15) hm
                                            refine sd_vv rfl rfl rfl (vv_build (cs := TScheme.cs (TScheme.mk 1#8 0 1 (TGroup.mk 0#64 0#64 0#64))) bs_45 rfl rfl) ?_
                                            have hb := bnd hm; clear hm; obtain ⟨x32, hx32, hm⟩ := hb
                                            refine sd_ev rfl rfl rfl (ev_call en_33 rfl (cover_Check_w (TScheme.mk 1#8 0 1 (TGroup.mk 0#64 0#64 0#64)) _ hx32 _)) ?_
                                            rintro _ w35 ⟨rfl, Gw35⟩
                                            have z67 := Gw35.size
                                            refine sd_vv rfl rfl rfl (vv_eql (a := x32) (b := 30) rfl rfl) ?_
                                            refine sd_vv rfl rfl rfl (vv_pickT rfl rfl) ?_
                                            refine sd_vv rfl rfl rfl (vv_assign rfl) ?_
                                            refine sd_done ?_
                                            refine sw_ret ?_
                                            have X68 : Gr w w35 := (Gr.trans (Gr.trans (Gr.trans (Gr.trans (Gr.trans (Gr.trans (Gr.trans (Gr.trans (Gr.trans (Gr.trans (Gr.trans (Gr.kz X45 Kw24) Gw25) Gw26) Gw27) Gw28) Gw29) Gw30) Gw31) Gw32) Gw33) Gw34) Gw35)
                                            have hr := Option.some.inj hm
                                            subst hr
                                            refine ⟨_, _, rfl, res_1 rfl (rv_tmp rfl), ?_⟩
                                            exact ⟨rfl, X68⟩
                                          ·
                                            replace hm := ite_f (of_decide_eq_false c15) hm
                                            refine sd_skip rfl rfl rfl ?_
                                            refine sd_skip rfl rfl rfl ?_
                                            refine sd_skip rfl rfl rfl ?_
                                            refine sd_vv rfl rfl rfl (vv_pickF rfl rfl) ?_
                                            refine sd_vv rfl rfl rfl (vv_assign rfl) ?_
                                            refine sd_done ?_
                                            refine sw_ret ?_
                                            have X69 : Gr w w34 := (Gr.trans (Gr.trans (Gr.trans (Gr.trans (Gr.trans (Gr.trans (Gr.trans (Gr.trans (Gr.trans (Gr.trans (Gr.kz X45 Kw24) Gw25) Gw26) Gw27) Gw28) Gw29) Gw30) Gw31) Gw32) Gw33) Gw34)
                                            have hr := Option.some.inj hm
                                            subst hr
                                            refine ⟨_, _, rfl, res_1 rfl (rv_tmp rfl), ?_⟩
                                            exact ⟨rfl, X69⟩
                                        ·
                                          replace hm := ite_f (of_decide_eq_false c14) hm
                                          refine sd_skip rfl rfl rfl ?_
                                          refine sd_skip rfl rfl rfl ?_
                                          refine sd_skip rfl rfl rfl ?_
                                          refine sd_vv rfl rfl rfl (vv_pickF rfl rfl) ?_
                                          refine sd_vv rfl rfl rfl (vv_move rfl) ?_
                                          refine sd_skip rfl rfl rfl ?_
                                          refine sd_skip rfl rfl rfl ?_
                                          refine sd_skip rfl rfl rfl ?_
                                          refine sd_vv rfl rfl rfl (vv_pickF rfl rfl) ?_
                                          refine sd_vv rfl rfl rfl (vv_assign rfl) ?_
                                          refine sd_done ?_
                                          refine sw_ret ?_
                                          have X70 : Gr w w32 := (Gr.trans (Gr.trans (Gr.trans (Gr.trans (Gr.trans (Gr.trans (Gr.trans (Gr.trans (Gr.kz X45 Kw24) Gw25) Gw26) Gw27) Gw28) Gw29) Gw30) Gw31) Gw32)
                                          have hr := Option.some.inj hm
                                          subst hr
                                          refine ⟨_, _, rfl, res_1 rfl (rv_tmp rfl), ?_⟩
                                          exact ⟨rfl, X70⟩
                                      ·
                                        replace hm := ite_f (of_decide_eq_false c13) hm
                                        refine sd_skip rfl rfl rfl ?_
                                        refine sd_skip rfl rfl rfl ?_
                                        refine sd_vv rfl rfl rfl (vv_pickF rfl rfl) ?_
                                        refine sd_vv rfl rfl rfl (vv_move rfl) ?_
                                        refine sd_skip rfl rfl rfl ?_
                                        refine sd_skip rfl rfl rfl ?_
                                        refine sd_skip rfl rfl rfl ?_
                                        refine sd_vv rfl rfl rfl (vv_pickF rfl rfl) ?_
                                        refine sd_vv rfl rfl rfl (vv_move rfl) ?_
                                        refine sd_skip rfl rfl rfl ?_
                                        refine sd_skip rfl rfl rfl ?_
                                        refine sd_skip rfl rfl rfl ?_
                                        refine sd_vv rfl rfl rfl (vv_pickF rfl rfl) ?_
                                        refine sd_vv rfl rfl rfl (vv_assign rfl) ?_
                                        refine sd_done ?_
                                        refine sw_ret ?_
                                        have X71 : Gr w w32 := (Gr.trans (Gr.trans (Gr.trans (Gr.trans (Gr.trans (Gr.trans (Gr.trans (Gr.trans (Gr.kz X45 Kw24) Gw25) Gw26) Gw27) Gw28) Gw29) Gw30) Gw31) Gw32)
                                        have hr := Option.some.inj hm
                                        subst hr
                                        refine ⟨_, _, rfl, res_1 rfl (rv_tmp rfl), ?_⟩
                                        exact ⟨rfl, X71⟩
                                    ·
                                      replace hm := ite_f (of_decide_eq_false c12) hm
                                      refine sd_skip rfl rfl rfl ?_
                                      refine sd_skip rfl rfl rfl ?_
                                      refine sd_vv rfl rfl rfl (vv_pickF rfl rfl) ?_
                                      refine sd_vv rfl rfl rfl (vv_move rfl) ?_
                                      refine sd_skip rfl rfl rfl ?_
                                      refine sd_skip rfl rfl rfl ?_
                                      refine sd_vv rfl rfl rfl (vv_pickF rfl rfl) ?_
                                      refine sd_vv rfl rfl rfl (vv_move rfl) ?_
                                      refine sd_skip rfl rfl rfl ?_
                                      refine sd_skip rfl rfl rfl ?_
                                      refine sd_skip rfl rfl rfl ?_
                                      refine sd_vv rfl rfl rfl (vv_pickF rfl rfl) ?_
                                      refine sd_vv rfl rfl rfl (vv_move rfl) ?_
                                      refine sd_skip rfl rfl rfl ?_
                                      refine sd_skip rfl rfl rfl ?_
                                      refine sd_skip rfl rfl rfl ?_
                                      refine sd_vv rfl rfl rfl (vv_pickF rfl rfl) ?_
                                      refine sd_vv rfl rfl rfl (vv_assign rfl) ?_
                                      refine sd_done ?_
                                      refine sw_ret ?_
                                      have X72 : Gr w w32 := (Gr.trans (Gr.trans (Gr.trans (Gr.trans (Gr.trans (Gr.trans (Gr.trans (Gr.trans (Gr.kz X45 Kw24) Gw25) Gw26) Gw27) Gw28) Gw29) Gw30) Gw31) Gw32)
                                      have hr := Option.some.inj hm
                                      subst hr
                                      refine ⟨_, _, rfl, res_1 rfl (rv_tmp rfl), ?_⟩
                                      exact ⟨rfl, X72⟩
                                  ·
                                    replace hm := ite_f (of_decide_eq_false c11) hm
                                    refine sd_skip rfl rfl rfl ?_
                                    refine sd_skip rfl rfl rfl ?_
                                    refine sd_vv rfl rfl rfl (vv_pickF rfl rfl) ?_
                                    refine sd_vv rfl rfl rfl (vv_move rfl) ?_
                                    refine sd_skip rfl rfl rfl ?_
                                    refine sd_skip rfl rfl rfl ?_
                                    refine sd_vv rfl rfl rfl (vv_pickF rfl rfl) ?_
                                    refine sd_vv rfl rfl rfl (vv_move rfl) ?_
                                    refine sd_skip rfl rfl rfl ?_
                                    refine sd_skip rfl rfl rfl ?_
                                    refine sd_vv rfl rfl rfl (vv_pickF rfl rfl) ?_
                                    refine sd_vv rfl rfl rfl (vv_move rfl) ?_
                                    refine sd_skip rfl rfl rfl ?_
                                    refine sd_skip rfl rfl rfl ?_
                                    refine sd_skip rfl rfl rfl ?_
                                    refine sd_vv rfl rfl rfl (vv_pickF rfl rfl) ?_
                                    refine sd_vv rfl rfl rfl (vv_move rfl) ?_
                                    refine sd_skip rfl rfl rfl ?_
                                    refine sd_skip rfl rfl rfl ?_
                                    refine sd_skip rfl rfl rfl ?_
                                    refine sd_vv rfl rfl rfl (vv_pickF rfl rfl) ?_
                                    refine sd_vv rfl rfl rfl (vv_assign rfl) ?_
                                    refine sd_done ?_
                                    refine sw_ret ?_
                                    have X73 : Gr w w32 := (Gr.trans (Gr.trans (Gr.trans (Gr.trans (Gr.trans (Gr.trans (Gr.trans (Gr.trans (Gr.kz X45 Kw24) Gw25) Gw26) Gw27) Gw28) Gw29) Gw30) Gw31) Gw32)
                                    have hr := Option.some.inj hm
                                    subst hr
                                    refine ⟨_, _, rfl, res_1 rfl (rv_tmp rfl), ?_⟩
                                    exact ⟨rfl, X73⟩
                                ·
                                  replace hm := ite_f (of_decide_eq_false c10) hm
                                  refine sd_skip rfl rfl rfl ?_
                                  refine sd_skip rfl rfl rfl ?_
                                  refine sd_vv rfl rfl rfl (vv_pickF rfl rfl) ?_
                                  refine sd_vv rfl rfl rfl (vv_move rfl) ?_
                                  refine sd_skip rfl rfl rfl ?_
                                  refine sd_skip rfl rfl rfl ?_
                                  refine sd_vv rfl rfl rfl (vv_pickF rfl rfl) ?_
                                  refine sd_vv rfl rfl rfl (vv_move rfl) ?_
                                  refine sd_skip rfl rfl rfl ?_
                                  refine sd_skip rfl rfl rfl ?_
                                  refine sd_vv rfl rfl rfl (vv_pickF rfl rfl) ?_
                                  refine sd_vv rfl rfl rfl (vv_move rfl) ?_
                                  refine sd_skip rfl rfl rfl ?_
                                  refine sd_skip rfl rfl rfl ?_
                                  refine sd_vv rfl rfl rfl (vv_pickF rfl rfl) ?_
                                  refine sd_vv rfl rfl rfl (vv_move rfl) ?_
                                  refine sd_skip rfl rfl rfl ?_
                                  refine sd_skip rfl rfl rfl ?_
                                  refine sd_skip rfl rfl rfl ?_
                                  refine sd_vv rfl rfl rfl (vv_pickF rfl rfl) ?_
                                  refine sd_vv rfl rfl rfl (vv_move rfl) ?_
                                  refine sd_skip rfl rfl rfl ?_
                                  refine sd_skip rfl rfl rfl ?_
                                  refine sd_skip rfl rfl rfl ?_
                                  refine sd_vv rfl rfl rfl (vv_pickF rfl rfl) ?_
                                  refine sd_vv rfl rfl rfl (vv_assign rfl) ?_
                                  refine sd_done ?_
                                  refine sw_ret ?_
                                  have X74 : Gr w w32 := (Gr.trans (Gr.trans (Gr.trans (Gr.trans (Gr.trans (Gr.trans (Gr.trans (Gr.trans (Gr.kz X45 Kw24) Gw25) Gw26) Gw27) Gw28) Gw29) Gw30) Gw31) Gw32)
                                  have hr := Option.some.inj hm
                                  subst hr
                                  refine ⟨_, _, rfl, res_1 rfl (rv_tmp rfl), ?_⟩
                                  exact ⟨rfl, X74⟩
                              ·
                                replace hm := ite_f (of_decide_eq_false c9) hm
                                refine sd_skip rfl rfl rfl ?_
                                refine sd_skip rfl rfl rfl ?_
                                refine sd_vv rfl rfl rfl (vv_pickF rfl rfl) ?_
                                refine sd_vv rfl rfl rfl (vv_move rfl) ?_
                                refine sd_skip rfl rfl rfl ?_
                                refine sd_skip rfl rfl rfl ?_
                                refine sd_vv rfl rfl rfl (vv_pickF rfl rfl) ?_
                                refine sd_vv rfl rfl rfl (vv_move rfl) ?_
                                refine sd_skip rfl rfl rfl ?_
                                refine sd_skip rfl rfl rfl ?_
                                refine sd_vv rfl rfl rfl (vv_pickF rfl rfl) ?_
                                refine sd_vv rfl rfl rfl (vv_move rfl) ?_
                                refine sd_skip rfl rfl rfl ?_
                                refine sd_skip rfl rfl rfl ?_
                                refine sd_vv rfl rfl rfl (vv_pickF rfl rfl) ?_
                                refine sd_vv rfl rfl rfl (vv_move rfl) ?_
                                refine sd_skip rfl rfl rfl ?_
                                refine sd_skip rfl rfl rfl ?_
                                refine sd_vv rfl rfl rfl (vv_pickF rfl rfl) ?_
                                refine sd_vv rfl rfl rfl (vv_move rfl) ?_
                                refine sd_skip rfl rfl rfl ?_
                                refine sd_skip rfl rfl rfl ?_
                                refine sd_skip rfl rfl rfl ?_
                                refine sd_vv rfl rfl rfl (vv_pickF rfl rfl) ?_
                                refine sd_vv rfl rfl rfl (vv_move rfl) ?_
                                refine sd_skip rfl rfl rfl ?_
                                refine sd_skip rfl rfl rfl ?_
                                refine sd_skip rfl rfl rfl ?_
                                refine sd_vv rfl rfl rfl (vv_pickF rfl rfl) ?_
                                refine sd_vv rfl rfl rfl (vv_assign rfl) ?_
                                refine sd_done ?_
                                refine sw_ret ?_
                                have X75 : Gr w w32 := (Gr.trans (Gr.trans (Gr.trans (Gr.trans (Gr.trans (Gr.trans (Gr.trans (Gr.trans (Gr.kz X45 Kw24) Gw25) Gw26) Gw27) Gw28) Gw29) Gw30) Gw31) Gw32)
                                have hr := Option.some.inj hm
                                subst hr
                                refine ⟨_, _, rfl, res_1 rfl (rv_tmp rfl), ?_⟩
                                exact ⟨rfl, X75⟩
                            ·
                              replace hm := ite_f (of_decide_eq_false c8) hm
                              refine sd_skip rfl rfl rfl ?_
                              refine sd_skip rfl rfl rfl ?_
                              refine sd_vv rfl rfl rfl (vv_pickF rfl rfl) ?_
                              refine sd_vv rfl rfl rfl (vv_move rfl) ?_
                              refine sd_skip rfl rfl rfl ?_
                              refine sd_skip rfl rfl rfl ?_
                              refine sd_vv rfl rfl rfl (vv_pickF rfl rfl) ?_
                              refine sd_vv rfl rfl rfl (vv_move rfl) ?_
                              refine sd_skip rfl rfl rfl ?_
                              refine sd_skip rfl rfl rfl ?_
                              refine sd_vv rfl rfl rfl (vv_pickF rfl rfl) ?_
                              refine sd_vv rfl rfl rfl (vv_move rfl) ?_
                              refine sd_skip rfl rfl rfl ?_
                              refine sd_skip rfl rfl rfl ?_
                              refine sd_vv rfl rfl rfl (vv_pickF rfl rfl) ?_
                              refine sd_vv rfl rfl rfl (vv_move rfl) ?_
                              refine sd_skip rfl rfl rfl ?_
                              refine sd_skip rfl rfl rfl ?_
                              refine sd_vv rfl rfl rfl (vv_pickF rfl rfl) ?_
                              refine sd_vv rfl rfl rfl (vv_move rfl) ?_
                              refine sd_skip rfl rfl rfl ?_
                              refine sd_skip rfl rfl rfl ?_
                              refine sd_vv rfl rfl rfl (vv_pickF rfl rfl) ?_
                              refine sd_vv rfl rfl rfl (vv_move rfl) ?_
                              refine sd_skip rfl rfl rfl ?_
                              refine sd_skip rfl rfl rfl ?_
                              refine sd_skip rfl rfl rfl ?_
                              refine sd_vv rfl rfl rfl (vv_pickF rfl rfl) ?_
                              refine sd_vv rfl rfl rfl (vv_move rfl) ?_
                              refine sd_skip rfl rfl rfl ?_
                              refine sd_skip rfl rfl rfl ?_
                              refine sd_skip rfl rfl rfl ?_
                              refine sd_vv rfl rfl rfl (vv_pickF rfl rfl) ?_
                              refine sd_vv rfl rfl rfl (vv_assign rfl) ?_
                              refine sd_done ?_
                              refine sw_ret ?_
                              have X76 : Gr w w32 := (Gr.trans (Gr.trans (Gr.trans (Gr.trans (Gr.trans (Gr.trans (Gr.trans (Gr.trans (Gr.kz X45 Kw24) Gw25) Gw26) Gw27) Gw28) Gw29) Gw30) Gw31) Gw32)
                              have hr := Option.some.inj hm
                              subst hr
                              refine ⟨_, _, rfl, res_1 rfl (rv_tmp rfl), ?_⟩
                              exact ⟨rfl, X76⟩
                          ·
                            replace hm := ite_f (of_decide_eq_false c7) hm
                            refine sd_skip rfl rfl rfl ?_
                            refine sd_skip rfl rfl rfl ?_
                            refine sd_vv rfl rfl rfl (vv_pickF rfl rfl) ?_
                            refine sd_vv rfl rfl rfl (vv_move rfl) ?_
                            refine sd_skip rfl rfl rfl ?_
                            refine sd_skip rfl rfl rfl ?_
                            refine sd_vv rfl rfl rfl (vv_pickF rfl rfl) ?_
                            refine sd_vv rfl rfl rfl (vv_move rfl) ?_
                            refine sd_skip rfl rfl rfl ?_
                            refine sd_skip rfl rfl rfl ?_
                            refine sd_vv rfl rfl rfl (vv_pickF rfl rfl) ?_
                            refine sd_vv rfl rfl rfl (vv_move rfl) ?_
                            refine sd_skip rfl rfl rfl ?_
                            refine sd_skip rfl rfl rfl ?_
                            refine sd_vv rfl rfl rfl (vv_pickF rfl rfl) ?_
                            refine sd_vv rfl rfl rfl (vv_move rfl) ?_
                            refine sd_skip rfl rfl rfl ?_
                            refine sd_skip rfl rfl rfl ?_
                            refine sd_vv rfl rfl rfl (vv_pickF rfl rfl) ?_
                            refine sd_vv rfl rfl rfl (vv_move rfl) ?_
                            refine sd_skip rfl rfl rfl ?_
                            refine sd_skip rfl rfl rfl ?_
                            refine sd_vv rfl rfl rfl (vv_pickF rfl rfl) ?_
                            refine sd_vv rfl rfl rfl (vv_move rfl) ?_
                            refine sd_skip rfl rfl rfl ?_
                            refine sd_skip rfl rfl rfl ?_
                            refine sd_vv rfl rfl rfl (vv_pickF rfl rfl) ?_
                            refine sd_vv rfl rfl rfl (vv_move rfl) ?_
                            refine sd_skip rfl rfl rfl ?_
                            refine sd_skip rfl rfl rfl ?_
                            refine sd_skip rfl rfl rfl ?_
                            refine sd_vv rfl rfl rfl (vv_pickF rfl rfl) ?_
                            refine sd_vv rfl rfl rfl (vv_move rfl) ?_
                            refine sd_skip rfl rfl rfl ?_
                            refine sd_skip rfl rfl rfl ?_
                            refine sd_skip rfl rfl rfl ?_
                            refine sd_vv rfl rfl rfl (vv_pickF rfl rfl) ?_
                            refine sd_vv rfl rfl rfl (vv_assign rfl) ?_
                            refine sd_done ?_
                            refine sw_ret ?_
                            have X77 : Gr w w32 := (Gr.trans (Gr.trans (Gr.trans (Gr.trans (Gr.trans (Gr.trans (Gr.trans (Gr.trans (Gr.kz X45 Kw24) Gw25) Gw26) Gw27) Gw28) Gw29) Gw30) Gw31) Gw32)
                            have hr := Option.some.inj hm
                            subst hr
                            refine ⟨_, _, rfl, res_1 rfl (rv_tmp rfl), ?_⟩
                            exact ⟨rfl, X77⟩
                      ·
                        -- region 22 outright.go:82
                        refine sw_region [(0, 0), (1, 0), (2, 0), (3, 0), (4, 0), (5, 0), (6, 0), (7, 0), (8, 0), (9, 0), (10, 0), (11, 0), (12, 0), (13, 0), (14, 0), (15, 0), (16, 0), (17, 0), (18, 0), (19, 0), (20, 0), (21, 0), (22, 0), (23, 0), (24, 0), (25, 0), (26, 0), (27, 0), (28, 0), (29, 0)] rfl rfl rfl ?_
                        refine sd_vv rfl rfl rfl (vv_move rfl) ?_
                        refine sd_vv rfl rfl rfl (vv_move rfl) ?_
                        refine sd_ev rfl rfl rfl (ev_litT [1, 2, 2, 5] ic bsl_61_4 rfl rfl (ws_of rfl) rfl rfl rfl) ?_
                        rintro vw36 w36 ⟨gw36, hbw36, Ow36, Gw36⟩
                        have z78 := Gw36.size
                        have lt79 := Ow36.lth
                        have B80 := (Own.gr (Own.gr (Own.gr (Own.gr (Own.gr O19_r0_s Gw20) Gw21) Gw22) Gw23) Gw36)
                        have hb := bnd hm; clear hm; obtain ⟨x33, hx33, hm⟩ := hb
                        refine sd_ev rfl rfl rfl (ev_call en_64 rfl (law03_is_w x17.1 x17.2 [1, 2, 2, 5] _ _ _ _ _ _ _ _ _ hx33 _ (Own.rd B80) (Own.rd Ow36))) ?_
                        rintro _ w37 ⟨rfl, Gw37⟩
                        have z81 := Gw37.size
                        refine sd_vv rfl rfl rfl (vv_not rfl) ?_
                        refine sd_split rfl rfl rfl (vv_move rfl) (fun c16 => ?_) (fun c16 => ?_)
                        ·
                          replace hm := cnd_t c16 hm
                          refine sd_skip rfl rfl rfl ?_
                          refine sd_skip rfl rfl rfl ?_
                          refine sd_skip rfl rfl rfl ?_
                          refine sd_skip rfl rfl rfl ?_
                          refine sd_skip rfl rfl rfl ?_
                          refine sd_vv rfl rfl rfl (vv_pickT rfl rfl) ?_
                          refine sd_vv rfl rfl rfl (vv_move rfl) ?_
                          refine sd_skip rfl rfl rfl ?_
                          refine sd_skip rfl rfl rfl ?_
                          refine sd_skip rfl rfl rfl ?_
                          refine sd_skip rfl rfl rfl ?_
                          refine sd_skip rfl rfl rfl ?_
                          refine sd_vv rfl rfl rfl (vv_pickT rfl rfl) ?_
                          refine sd_vv rfl rfl rfl (vv_move rfl) ?_
                          refine sd_skip rfl rfl rfl ?_
                          refine sd_skip rfl rfl rfl ?_
                          refine sd_skip rfl rfl rfl ?_
                          refine sd_skip rfl rfl rfl ?_
                          refine sd_skip rfl rfl rfl ?_
                          refine sd_vv rfl rfl rfl (vv_pickT rfl rfl) ?_
                          refine sd_vv rfl rfl rfl (vv_move rfl) ?_
                          refine sd_skip rfl rfl rfl ?_
                          refine sd_skip rfl rfl rfl ?_
                          refine sd_vv rfl rfl rfl (vv_pickT rfl rfl) ?_
                          refine sd_nil ?_
                          have K_82 : Kz [] w23 w37 := (Kz.gr (Kz.gr (Kz.refl _ _) Gw36) Gw37)
                          refine ⟨rfl, true, ?_, hm, K_82⟩
                          repeat' first | exact trivial | refine ⟨rfl, ?_⟩
                        ·
                          replace hm := cnd_f c16 hm
                          refine sd_vv rfl rfl rfl (vv_move rfl) ?_
                          refine sd_vv rfl rfl rfl (vv_move rfl) ?_
                          refine sd_ev rfl rfl rfl (ev_litT [3, 6, 3, 7] ic bsl_61_4 rfl rfl (ws_of rfl) rfl rfl rfl) ?_
                          rintro vw38 w38 ⟨gw38, hbw38, Ow38, Gw38⟩
                          have z83 := Gw38.size
                          have lt84 := Ow38.lth
                          have B85 := (Own.gr (Own.gr (Own.gr (Own.gr (Own.gr (Own.gr O20_r0_s Gw21) Gw22) Gw23) Gw36) Gw37) Gw38)
                          have hb := bnd hm; clear hm; obtain ⟨x34, hx34, hm⟩ := hb
                          refine sd_ev rfl rfl rfl (ev_call en_64 rfl (law03_is_w x18.1 x18.2 [3, 6, 3, 7] _ _ _ _ _ _ _ _ _ hx34 _ (Own.rd B85) (Own.rd Ow38))) ?_
                          rintro _ w39 ⟨rfl, Gw39⟩
                          have z86 := Gw39.size
                          refine sd_vv rfl rfl rfl (vv_not rfl) ?_
                          refine sd_vv rfl rfl rfl (vv_pickF rfl rfl) ?_
                          refine sd_split rfl rfl rfl (vv_move rfl) (fun c17 => ?_) (fun c17 => ?_)
                          ·
                            replace hm := cnd_t c17 hm
                            refine sd_skip rfl rfl rfl ?_
                            refine sd_skip rfl rfl rfl ?_
                            refine sd_skip rfl rfl rfl ?_
                            refine sd_skip rfl rfl rfl ?_
                            refine sd_skip rfl rfl rfl ?_
                            refine sd_vv rfl rfl rfl (vv_pickT rfl rfl) ?_
                            refine sd_vv rfl rfl rfl (vv_move rfl) ?_
                            refine sd_skip rfl rfl rfl ?_
                            refine sd_skip rfl rfl rfl ?_
                            refine sd_skip rfl rfl rfl ?_
                            refine sd_skip rfl rfl rfl ?_
                            refine sd_skip rfl rfl rfl ?_
                            refine sd_vv rfl rfl rfl (vv_pickT rfl rfl) ?_
                            refine sd_vv rfl rfl rfl (vv_move rfl) ?_
                            refine sd_skip rfl rfl rfl ?_
                            refine sd_skip rfl rfl rfl ?_
                            refine sd_vv rfl rfl rfl (vv_pickT rfl rfl) ?_
                            refine sd_nil ?_
                            have K_87 : Kz [] w23 w39 := (Kz.gr (Kz.gr (Kz.gr (Kz.gr (Kz.refl _ _) Gw36) Gw37) Gw38) Gw39)
                            refine ⟨rfl, true, ?_, hm, K_87⟩
                            repeat' first | exact trivial | refine ⟨rfl, ?_⟩
                          ·
                            replace hm := cnd_f c17 hm
                            refine sd_vv rfl rfl rfl (vv_move rfl) ?_
                            refine sd_vv rfl rfl rfl (vv_move rfl) ?_
                            refine sd_ev rfl rfl rfl (ev_litT [5, 10, 5, 11] ic bsl_61_4 rfl rfl (ws_of rfl) rfl rfl rfl) ?_
                            rintro vw40 w40 ⟨gw40, hbw40, Ow40, Gw40⟩
                            have z88 := Gw40.size
                            have lt89 := Ow40.lth
                            have B90 := (Own.gr (Own.gr (Own.gr (Own.gr (Own.gr (Own.gr (Own.gr O21_r0_s Gw22) Gw23) Gw36) Gw37) Gw38) Gw39) Gw40)
                            have hb := bnd hm; clear hm; obtain ⟨x35, hx35, hm⟩ := hb
                            refine sd_ev rfl rfl rfl (ev_call en_64 rfl (law03_is_w x19.1 x19.2 [5, 10, 5, 11] _ _ _ _ _ _ _ _ _ hx35 _ (Own.rd B90) (Own.rd Ow40))) ?_
                            rintro _ w41 ⟨rfl, Gw41⟩
                            have z91 := Gw41.size
                            refine sd_vv rfl rfl rfl (vv_not rfl) ?_
                            refine sd_vv rfl rfl rfl (vv_pickF rfl rfl) ?_
                            refine sd_split rfl rfl rfl (vv_move rfl) (fun c18 => ?_) (fun c18 => ?_)
                            ·
                              replace hm := cnd_t c18 hm
                              refine sd_skip rfl rfl rfl ?_
                              refine sd_skip rfl rfl rfl ?_
                              refine sd_skip rfl rfl rfl ?_
                              refine sd_skip rfl rfl rfl ?_
                              refine sd_skip rfl rfl rfl ?_
                              refine sd_vv rfl rfl rfl (vv_pickT rfl rfl) ?_
                              refine sd_vv rfl rfl rfl (vv_move rfl) ?_
                              refine sd_skip rfl rfl rfl ?_
                              refine sd_skip rfl rfl rfl ?_
                              refine sd_vv rfl rfl rfl (vv_pickT rfl rfl) ?_
                              refine sd_nil ?_
                              have K_92 : Kz [] w23 w41 := (Kz.gr (Kz.gr (Kz.gr (Kz.gr (Kz.gr (Kz.gr (Kz.refl _ _) Gw36) Gw37) Gw38) Gw39) Gw40) Gw41)
                              refine ⟨rfl, true, ?_, hm, K_92⟩
                              repeat' first | exact trivial | refine ⟨rfl, ?_⟩
                            ·
                              replace hm := cnd_f c18 hm
                              refine sd_vv rfl rfl rfl (vv_move rfl) ?_
                              refine sd_vv rfl rfl rfl (vv_move rfl) ?_
                              refine sd_ev rfl rfl rfl (ev_litT [1, 2, 1, 3] ic bsl_61_4 rfl rfl (ws_of rfl) rfl rfl rfl) ?_
                              rintro vw42 w42 ⟨gw42, hbw42, Ow42, Gw42⟩
                              have z93 := Gw42.size
                              have lt94 := Ow42.lth
                              have B95 := (Own.gr (Own.gr (Own.gr (Own.gr (Own.gr (Own.gr (Own.gr (Own.gr O22_r0_s Gw23) Gw36) Gw37) Gw38) Gw39) Gw40) Gw41) Gw42)
                              have hb := bnd hm; clear hm; obtain ⟨x36, hx36, hm⟩ := hb
                              refine sd_ev rfl rfl rfl (ev_call en_64 rfl (law03_is_w x20.1 x20.2 [1, 2, 1, 3] _ _ _ _ _ _ _ _ _ hx36 _ (Own.rd B95) (Own.rd Ow42))) ?_
                              rintro _ w43 ⟨rfl, Gw43⟩
                              have z96 := Gw43.size
                              refine sd_vv rfl rfl rfl (vv_not rfl) ?_
                              refine sd_vv rfl rfl rfl (vv_pickF rfl rfl) ?_
                              refine sd_split rfl rfl rfl (vv_move rfl) (fun c19 => ?_) (fun c19 => ?_)
                              ·
                                replace hm := cnd_t c19 hm
                                refine sd_skip rfl rfl rfl ?_
                                refine sd_skip rfl rfl rfl ?_
                                refine sd_vv rfl rfl rfl (vv_pickT rfl rfl) ?_
                                refine sd_nil ?_
                                have K_97 : Kz [] w23 w43 := (Kz.gr (Kz.gr (Kz.gr (Kz.gr (Kz.gr (Kz.gr (Kz.gr (Kz.gr (Kz.refl _ _) Gw36) Gw37) Gw38) Gw39) Gw40) Gw41) Gw42) Gw43)
                                refine ⟨rfl, true, ?_, hm, K_97⟩
                                repeat' first | exact trivial | refine ⟨rfl, ?_⟩
                              ·
                                replace hm := cnd_f c19 hm
                                refine sd_vv rfl rfl rfl (vv_move rfl) ?_
                                refine sd_vv rfl rfl rfl (vv_neq (a := x21.2) (b := 6) rfl rfl) ?_
                                refine sd_vv rfl rfl rfl (vv_pickF rfl rfl) ?_
                                refine sd_nil ?_
                                have K_98 : Kz [] w23 w43 := (Kz.gr (Kz.gr (Kz.gr (Kz.gr (Kz.gr (Kz.gr (Kz.gr (Kz.gr (Kz.refl _ _) Gw36) Gw37) Gw38) Gw39) Gw40) Gw41) Gw42) Gw43)
                                refine ⟨rfl, (decide (x21.2 ≠ 6)), ?_, hm, K_98⟩
                                repeat' first | exact trivial | refine ⟨rfl, ?_⟩
                  ·
                    -- region 14 outright.go:73
                    refine sw_region [(0, 0), (1, 0), (2, 0), (3, 0), (4, 0), (5, 0), (6, 0), (7, 0), (8, 0), (9, 0), (10, 0), (11, 0), (12, 0), (13, 0), (14, 0), (15, 0), (16, 0), (17, 0), (18, 0), (19, 0), (20, 0), (21, 0)] rfl rfl rfl ?_
                    refine sd_vv rfl rfl rfl (vv_move rfl) ?_
                    refine sd_vv rfl rfl rfl (vv_neq (a := x10.2) (b := 0) rfl rfl) ?_
                    refine sd_split rfl rfl rfl (vv_move rfl) (fun c20 => ?_) (fun c20 => ?_)
                    ·
                      replace hm := ite_t (of_decide_eq_true c20) hm
                      refine sd_skip rfl rfl rfl ?_
                      refine sd_skip rfl rfl rfl ?_
                      refine sd_vv rfl rfl rfl (vv_pickT rfl rfl) ?_
                      refine sd_vv rfl rfl rfl (vv_move rfl) ?_
                      refine sd_skip rfl rfl rfl ?_
                      refine sd_skip rfl rfl rfl ?_
                      refine sd_vv rfl rfl rfl (vv_pickT rfl rfl) ?_
                      refine sd_vv rfl rfl rfl (vv_move rfl) ?_
                      refine sd_skip rfl rfl rfl ?_
                      refine sd_skip rfl rfl rfl ?_
                      refine sd_vv rfl rfl rfl (vv_pickT rfl rfl) ?_
                      refine sd_vv rfl rfl rfl (vv_move rfl) ?_
                      refine sd_skip rfl rfl rfl ?_
                      refine sd_skip rfl rfl rfl ?_
                      refine sd_vv rfl rfl rfl (vv_pickT rfl rfl) ?_
                      refine sd_vv rfl rfl rfl (vv_move rfl) ?_
                      refine sd_skip rfl rfl rfl ?_
                      refine sd_skip rfl rfl rfl ?_
                      refine sd_vv rfl rfl rfl (vv_pickT rfl rfl) ?_
                      refine sd_nil ?_
                      have K_99 : Kz [] w14 w14 := (Kz.refl _ _)
                      refine ⟨rfl, true, ?_, hm, K_99⟩
                      repeat' first | exact trivial | refine ⟨rfl, ?_⟩
                    ·
                      replace hm := ite_f (of_decide_eq_false c20) hm
                      refine sd_vv rfl rfl rfl (vv_move rfl) ?_
                      refine sd_vv rfl rfl rfl (vv_neq (a := x10.1) (b := 4) rfl rfl) ?_
                      refine sd_vv rfl rfl rfl (vv_pickF rfl rfl) ?_
                      refine sd_split rfl rfl rfl (vv_move rfl) (fun c21 => ?_) (fun c21 => ?_)
                      ·
                        replace hm := ite_t (of_decide_eq_true c21) hm
                        refine sd_skip rfl rfl rfl ?_
                        refine sd_skip rfl rfl rfl ?_
                        refine sd_vv rfl rfl rfl (vv_pickT rfl rfl) ?_
                        refine sd_vv rfl rfl rfl (vv_move rfl) ?_
                        refine sd_skip rfl rfl rfl ?_
                        refine sd_skip rfl rfl rfl ?_
                        refine sd_vv rfl rfl rfl (vv_pickT rfl rfl) ?_
                        refine sd_vv rfl rfl rfl (vv_move rfl) ?_
                        refine sd_skip rfl rfl rfl ?_
                        refine sd_skip rfl rfl rfl ?_
                        refine sd_vv rfl rfl rfl (vv_pickT rfl rfl) ?_
                        refine sd_vv rfl rfl rfl (vv_move rfl) ?_
                        refine sd_skip rfl rfl rfl ?_
                        refine sd_skip rfl rfl rfl ?_
                        refine sd_vv rfl rfl rfl (vv_pickT rfl rfl) ?_
                        refine sd_nil ?_
                        have K_100 : Kz [] w14 w14 := (Kz.refl _ _)
                        refine ⟨rfl, true, ?_, hm, K_100⟩
                        repeat' first | exact trivial | refine ⟨rfl, ?_⟩
                      ·
                        replace hm := ite_f (of_decide_eq_false c21) hm
                        refine sd_vv rfl rfl rfl (vv_move rfl) ?_
                        refine sd_vv rfl rfl rfl (vv_neq (a := x12.2) (b := 0) rfl rfl) ?_
                        refine sd_vv rfl rfl rfl (vv_pickF rfl rfl) ?_
                        refine sd_split rfl rfl rfl (vv_move rfl) (fun c22 => ?_) (fun c22 => ?_)
                        ·
                          replace hm := ite_t (of_decide_eq_true c22) hm
                          refine sd_skip rfl rfl rfl ?_
                          refine sd_skip rfl rfl rfl ?_
                          refine sd_vv rfl rfl rfl (vv_pickT rfl rfl) ?_
                          refine sd_vv rfl rfl rfl (vv_move rfl) ?_
                          refine sd_skip rfl rfl rfl ?_
                          refine sd_skip rfl rfl rfl ?_
                          refine sd_vv rfl rfl rfl (vv_pickT rfl rfl) ?_
                          refine sd_vv rfl rfl rfl (vv_move rfl) ?_
                          refine sd_skip rfl rfl rfl ?_
                          refine sd_skip rfl rfl rfl ?_
                          refine sd_vv rfl rfl rfl (vv_pickT rfl rfl) ?_
                          refine sd_nil ?_
                          have K_101 : Kz [] w14 w14 := (Kz.refl _ _)
                          refine ⟨rfl, true, ?_, hm, K_101⟩
                          repeat' first | exact trivial | refine ⟨rfl, ?_⟩
                        ·
                          replace hm := ite_f (of_decide_eq_false c22) hm
                          refine sd_vv rfl rfl rfl (vv_move rfl) ?_
                          refine sd_vv rfl rfl rfl (vv_neq (a := x12.1) (b := 7) rfl rfl) ?_
                          refine sd_vv rfl rfl rfl (vv_pickF rfl rfl) ?_
                          refine sd_split rfl rfl rfl (vv_move rfl) (fun c23 => ?_) (fun c23 => ?_)
                          ·
                            replace hm := ite_t (of_decide_eq_true c23) hm
                            refine sd_skip rfl rfl rfl ?_
                            refine sd_skip rfl rfl rfl ?_
                            refine sd_vv rfl rfl rfl (vv_pickT rfl rfl) ?_
                            refine sd_vv rfl rfl rfl (vv_move rfl) ?_
                            refine sd_skip rfl rfl rfl ?_
                            refine sd_skip rfl rfl rfl ?_
                            refine sd_vv rfl rfl rfl (vv_pickT rfl rfl) ?_
                            refine sd_nil ?_
                            have K_102 : Kz [] w14 w14 := (Kz.refl _ _)
                            refine ⟨rfl, true, ?_, hm, K_102⟩
                            repeat' first | exact trivial | refine ⟨rfl, ?_⟩
                          ·
                            replace hm := ite_f (of_decide_eq_false c23) hm
                            refine sd_vv rfl rfl rfl (vv_move rfl) ?_
                            refine sd_vv rfl rfl rfl (vv_neq (a := x14.2) (b := 0) rfl rfl) ?_
                            refine sd_vv rfl rfl rfl (vv_pickF rfl rfl) ?_
                            refine sd_split rfl rfl rfl (vv_move rfl) (fun c24 => ?_) (fun c24 => ?_)
                            ·
                              replace hm := ite_t (of_decide_eq_true c24) hm
                              refine sd_skip rfl rfl rfl ?_
                              refine sd_skip rfl rfl rfl ?_
                              refine sd_vv rfl rfl rfl (vv_pickT rfl rfl) ?_
                              refine sd_nil ?_
                              have K_103 : Kz [] w14 w14 := (Kz.refl _ _)
                              refine ⟨rfl, true, ?_, hm, K_103⟩
                              repeat' first | exact trivial | refine ⟨rfl, ?_⟩
                            ·
                              replace hm := ite_f (of_decide_eq_false c24) hm
                              refine sd_vv rfl rfl rfl (vv_move rfl) ?_
                              refine sd_vv rfl rfl rfl (vv_neq (a := x14.1) (b := 6) rfl rfl) ?_
                              refine sd_vv rfl rfl rfl (vv_pickF rfl rfl) ?_
                              refine sd_nil ?_
                              have K_104 : Kz [] w14 w14 := (Kz.refl _ _)
                              refine ⟨rfl, (decide (x14.1 ≠ 6)), ?_, hm, K_104⟩
                              repeat' first | exact trivial | refine ⟨rfl, ?_⟩
              ·
                -- region 9 outright.go:67
                refine sw_region [(0, 0), (1, 0), (2, 0), (3, 0), (4, 0), (5, 0), (6, 0), (7, 0), (8, 0), (9, 0), (10, 0), (11, 0), (12, 0), (13, 0), (14, 0), (15, 0), (16, 0), (17, 0)] rfl rfl rfl ?_
                refine sd_vv rfl rfl rfl (vv_move rfl) ?_
                refine sd_vv rfl rfl rfl (vv_neq (a := x5.2) (b := 0) rfl rfl) ?_
                refine sd_split rfl rfl rfl (vv_move rfl) (fun c25 => ?_) (fun c25 => ?_)
                ·
                  replace hm := ite_t (of_decide_eq_true c25) hm
                  refine sd_skip rfl rfl rfl ?_
                  refine sd_skip rfl rfl rfl ?_
                  refine sd_vv rfl rfl rfl (vv_pickT rfl rfl) ?_
                  refine sd_vv rfl rfl rfl (vv_move rfl) ?_
                  refine sd_skip rfl rfl rfl ?_
                  refine sd_skip rfl rfl rfl ?_
                  refine sd_skip rfl rfl rfl ?_
                  refine sd_skip rfl rfl rfl ?_
                  refine sd_vv rfl rfl rfl (vv_pickT rfl rfl) ?_
                  refine sd_vv rfl rfl rfl (vv_move rfl) ?_
                  refine sd_skip rfl rfl rfl ?_
                  refine sd_skip rfl rfl rfl ?_
                  refine sd_skip rfl rfl rfl ?_
                  refine sd_skip rfl rfl rfl ?_
                  refine sd_vv rfl rfl rfl (vv_pickT rfl rfl) ?_
                  refine sd_nil ?_
                  have K_105 : Kz [] w7 w7 := (Kz.refl _ _)
                  refine ⟨rfl, true, ?_, hm, K_105⟩
                  repeat' first | exact trivial | refine ⟨rfl, ?_⟩
                ·
                  replace hm := ite_f (of_decide_eq_false c25) hm
                  refine sd_vv rfl rfl rfl (vv_move rfl) ?_
                  refine sd_vv rfl rfl rfl (vv_neq (a := x7.2) (b := 0) rfl rfl) ?_
                  refine sd_vv rfl rfl rfl (vv_pickF rfl rfl) ?_
                  refine sd_split rfl rfl rfl (vv_move rfl) (fun c26 => ?_) (fun c26 => ?_)
                  ·
                    replace hm := ite_t (of_decide_eq_true c26) hm
                    refine sd_skip rfl rfl rfl ?_
                    refine sd_skip rfl rfl rfl ?_
                    refine sd_skip rfl rfl rfl ?_
                    refine sd_skip rfl rfl rfl ?_
                    refine sd_vv rfl rfl rfl (vv_pickT rfl rfl) ?_
                    refine sd_vv rfl rfl rfl (vv_move rfl) ?_
                    refine sd_skip rfl rfl rfl ?_
                    refine sd_skip rfl rfl rfl ?_
                    refine sd_skip rfl rfl rfl ?_
                    refine sd_skip rfl rfl rfl ?_
                    refine sd_vv rfl rfl rfl (vv_pickT rfl rfl) ?_
                    refine sd_nil ?_
                    have K_106 : Kz [] w7 w7 := (Kz.refl _ _)
                    refine ⟨rfl, true, ?_, hm, K_106⟩
                    repeat' first | exact trivial | refine ⟨rfl, ?_⟩
                  ·
                    replace hm := ite_f (of_decide_eq_false c26) hm
                    refine sd_vv rfl rfl rfl (vv_move rfl) ?_
                    refine sd_ev rfl rfl rfl (ev_litT [0, 1, 4, 5, 6, 7] ic bsl_61_6 rfl rfl (ws_of rfl) rfl rfl rfl) ?_
                    rintro vw44 w44 ⟨gw44, hbw44, Ow44, Gw44⟩
                    have z107 := Gw44.size
                    have lt108 := Ow44.lth
                    have B109 := (Own.gr (Own.gr (Own.gr O5_r0_s Gw6) Gw7) Gw44)
                    have hb := bnd hm; clear hm; obtain ⟨x37, hx37, hm⟩ := hb
                    refine sd_ev rfl rfl rfl (ev_call en_37 rfl (ref03_SameInts_w x5.1 [0, 1, 4, 5, 6, 7] _ _ _ _ _ _ _ _ _ hx37 _ (Own.rd B109) (Own.rd Ow44))) ?_
                    rintro _ w45 ⟨rfl, Gw45⟩
                    have z110 := Gw45.size
                    refine sd_vv rfl rfl rfl (vv_not rfl) ?_
                    refine sd_vv rfl rfl rfl (vv_pickF rfl rfl) ?_
                    refine sd_split rfl rfl rfl (vv_move rfl) (fun c27 => ?_) (fun c27 => ?_)
                    ·
                      replace hm := cnd_t c27 hm
                      refine sd_skip rfl rfl rfl ?_
                      refine sd_skip rfl rfl rfl ?_
                      refine sd_skip rfl rfl rfl ?_
                      refine sd_skip rfl rfl rfl ?_
                      refine sd_vv rfl rfl rfl (vv_pickT rfl rfl) ?_
                      refine sd_nil ?_
                      have K_111 : Kz [] w7 w45 := (Kz.gr (Kz.gr (Kz.refl _ _) Gw44) Gw45)
                      refine ⟨rfl, true, ?_, hm, K_111⟩
                      repeat' first | exact trivial | refine ⟨rfl, ?_⟩
                    ·
                      replace hm := cnd_f c27 hm
                      refine sd_vv rfl rfl rfl (vv_move rfl) ?_
                      refine sd_ev rfl rfl rfl (ev_litT [1, 2, 3] ic bsl_61_3 rfl rfl (ws_of rfl) rfl rfl rfl) ?_
                      rintro vw46 w46 ⟨gw46, hbw46, Ow46, Gw46⟩
                      have z112 := Gw46.size
                      have lt113 := Ow46.lth
                      have B114 := (Own.gr (Own.gr (Own.gr O7_r0_s Gw44) Gw45) Gw46)
                      have hb := bnd hm; clear hm; obtain ⟨x38, hx38, hm⟩ := hb
                      refine sd_ev rfl rfl rfl (ev_call en_37 rfl (ref03_SameInts_w x7.1 [1, 2, 3] _ _ _ _ _ _ _ _ _ hx38 _ (Own.rd B114) (Own.rd Ow46))) ?_
                      rintro _ w47 ⟨rfl, Gw47⟩
                      have z115 := Gw47.size
                      refine sd_vv rfl rfl rfl (vv_not rfl) ?_
                      refine sd_vv rfl rfl rfl (vv_pickF rfl rfl) ?_
                      refine sd_nil ?_
                      have K_116 : Kz [] w7 w47 := (Kz.gr (Kz.gr (Kz.gr (Kz.gr (Kz.refl _ _) Gw44) Gw45) Gw46) Gw47)
                      refine ⟨rfl, (!x38), ?_, hm, K_116⟩
                      repeat' first | exact trivial | refine ⟨rfl, ?_⟩
          ·
            -- region 5 outright.go:62
            refine sw_region [(0, 0), (1, 0), (2, 0), (3, 0), (4, 0), (5, 0), (6, 0), (7, 0), (8, 0), (9, 0), (10, 0), (11, 0), (12, 0), (13, 0), (14, 0), (15, 0), (16, 0), (17, 0), (18, 0), (19, 0), (20, 0), (21, 0), (22, 0), (23, 0), (24, 0), (25, 0)] rfl rfl rfl ?_
            have hb := bnd hm; clear hm; obtain ⟨x39, hx39, hm⟩ := hb
            refine sd_ev rfl rfl rfl (ev_call en_58 rfl (law03_of_w 2#8 6 _ hx39 _)) ?_
            rintro _ w48 ⟨rfl, Gw48⟩
            have z117 := Gw48.size
            refine sd_ev rfl rfl rfl (ev_litT [0] ic bsl_61_1 rfl rfl (ws_of rfl) rfl rfl rfl) ?_
            rintro vw49 w49 ⟨gw49, hbw49, Ow49, Gw49⟩
            have z118 := Gw49.size
            have lt119 := Ow49.lth
            refine sd_ev rfl rfl rfl (ev_litT [1, 64] ic bsl_61_2 rfl rfl (ws_of rfl) rfl rfl rfl) ?_
            rintro vw50 w50 ⟨gw50, hbw50, Ow50, Gw50⟩
            have z120 := Gw50.size
            have lt121 := Ow50.lth
            have B122 := (Own.gr Ow49 Gw50)
            have hb := bnd hm; clear hm; obtain ⟨x40, hx40, hm⟩ := hb
            refine sd_ev rfl rfl rfl (ev_call en_63 rfl (law03_covers_w x39 [0] [1, 64] _ _ _ _ _ _ _ _ _ hx40 _ (Own.rd B122) (Own.rd Ow50))) ?_
            rintro _ w51 ⟨rfl, Gw51⟩
            have z123 := Gw51.size
            refine sd_vv rfl rfl rfl (vv_not rfl) ?_
            refine sd_split rfl rfl rfl (vv_move rfl) (fun c28 => ?_) (fun c28 => ?_)
            ·
              replace hm := cnd_t c28 hm
              refine sd_skip rfl rfl rfl ?_
              refine sd_skip rfl rfl rfl ?_
              refine sd_skip rfl rfl rfl ?_
              refine sd_skip rfl rfl rfl ?_
              refine sd_skip rfl rfl rfl ?_
              refine sd_vv rfl rfl rfl (vv_pickT rfl rfl) ?_
              refine sd_vv rfl rfl rfl (vv_move rfl) ?_
              refine sd_skip rfl rfl rfl ?_
              refine sd_skip rfl rfl rfl ?_
              refine sd_skip rfl rfl rfl ?_
              refine sd_skip rfl rfl rfl ?_
              refine sd_skip rfl rfl rfl ?_
              refine sd_vv rfl rfl rfl (vv_pickT rfl rfl) ?_
              refine sd_vv rfl rfl rfl (vv_move rfl) ?_
              refine sd_skip rfl rfl rfl ?_
              refine sd_skip rfl rfl rfl ?_
              refine sd_skip rfl rfl rfl ?_
              refine sd_skip rfl rfl rfl ?_
              refine sd_skip rfl rfl rfl ?_
              refine sd_vv rfl rfl rfl (vv_pickT rfl rfl) ?_
              refine sd_nil ?_
              have K_124 : Kz [] w2 w51 := (Kz.gr (Kz.gr (Kz.gr (Kz.gr (Kz.refl _ _) Gw48) Gw49) Gw50) Gw51)
              refine ⟨rfl, true, ?_, hm, K_124⟩
              repeat' first | exact trivial | refine ⟨rfl, ?_⟩
            ·
              replace hm := cnd_f c28 hm
              have hb := bnd hm; clear hm; obtain ⟨x41, hx41, hm⟩ := hb
              refine sd_ev rfl rfl rfl (ev_call en_58 rfl (law03_of_w 3#8 6 _ hx41 _)) ?_
              rintro _ w52 ⟨rfl, Gw52⟩
              have z125 := Gw52.size
              refine sd_ev rfl rfl rfl (ev_litT [0] ic bsl_61_1 rfl rfl (ws_of rfl) rfl rfl rfl) ?_
              rintro vw53 w53 ⟨gw53, hbw53, Ow53, Gw53⟩
              have z126 := Gw53.size
              have lt127 := Ow53.lth
              refine sd_ev rfl rfl rfl (ev_litT [1, 64] ic bsl_61_2 rfl rfl (ws_of rfl) rfl rfl rfl) ?_
              rintro vw54 w54 ⟨gw54, hbw54, Ow54, Gw54⟩
              have z128 := Gw54.size
              have lt129 := Ow54.lth
              have B130 := (Own.gr Ow53 Gw54)
              have hb := bnd hm; clear hm; obtain ⟨x42, hx42, hm⟩ := hb
              refine sd_ev rfl rfl rfl (ev_call en_63 rfl (law03_covers_w x41 [0] [1, 64] _ _ _ _ _ _ _ _ _ hx42 _ (Own.rd B130) (Own.rd Ow54))) ?_
              rintro _ w55 ⟨rfl, Gw55⟩
              have z131 := Gw55.size
              refine sd_vv rfl rfl rfl (vv_not rfl) ?_
              refine sd_vv rfl rfl rfl (vv_pickF rfl rfl) ?_
              refine sd_split rfl rfl rfl (vv_move rfl) (fun c29 => ?_) (fun c29 => ?_)
              ·
                replace hm := cnd_t c29 hm
                refine sd_skip rfl rfl rfl ?_
                refine sd_skip rfl rfl rfl ?_
                refine sd_skip rfl rfl rfl ?_
                refine sd_skip rfl rfl rfl ?_
                refine sd_skip rfl rfl rfl ?_
                refine sd_vv rfl rfl rfl (vv_pickT rfl rfl) ?_
                refine sd_vv rfl rfl rfl (vv_move rfl) ?_
                refine sd_skip rfl rfl rfl ?_
                refine sd_skip rfl rfl rfl ?_
                refine sd_skip rfl rfl rfl ?_
                refine sd_skip rfl rfl rfl ?_
                refine sd_skip rfl rfl rfl ?_
                refine sd_vv rfl rfl rfl (vv_pickT rfl rfl) ?_
                refine sd_nil ?_
                have K_132 : Kz [] w2 w55 := (Kz.gr (Kz.gr (Kz.gr (Kz.gr (Kz.gr (Kz.gr (Kz.gr (Kz.gr (Kz.refl _ _) Gw48) Gw49) Gw50) Gw51) Gw52) Gw53) Gw54) Gw55)
                refine ⟨rfl, true, ?_, hm, K_132⟩
                repeat' first | exact trivial | refine ⟨rfl, ?_⟩
              ·
                replace hm := cnd_f c29 hm
                have hb := bnd hm; clear hm; obtain ⟨x43, hx43, hm⟩ := hb
                refine sd_ev rfl rfl rfl (ev_call en_58 rfl (law03_of_w 2#8 6 _ hx43 _)) ?_
                rintro _ w56 ⟨rfl, Gw56⟩
                have z133 := Gw56.size
                refine sd_ev rfl rfl rfl (ev_litT [0, 32] ic bsl_61_2 rfl rfl (ws_of rfl) rfl rfl rfl) ?_
                rintro vw57 w57 ⟨gw57, hbw57, Ow57, Gw57⟩
                have z134 := Gw57.size
                have lt135 := Ow57.lth
                refine sd_ev rfl rfl rfl (ev_litT [2, 64, 3, 96] ic bsl_61_4 rfl rfl (ws_of rfl) rfl rfl rfl) ?_
                rintro vw58 w58 ⟨gw58, hbw58, Ow58, Gw58⟩
                have z136 := Gw58.size
                have lt137 := Ow58.lth
                have B138 := (Own.gr Ow57 Gw58)
                have hb := bnd hm; clear hm; obtain ⟨x44, hx44, hm⟩ := hb
                refine sd_ev rfl rfl rfl (ev_call en_63 rfl (law03_covers_w x43 [0, 32] [2, 64, 3, 96] _ _ _ _ _ _ _ _ _ hx44 _ (Own.rd B138) (Own.rd Ow58))) ?_
                rintro _ w59 ⟨rfl, Gw59⟩
                have z139 := Gw59.size
                refine sd_vv rfl rfl rfl (vv_not rfl) ?_
                refine sd_vv rfl rfl rfl (vv_pickF rfl rfl) ?_
                refine sd_split rfl rfl rfl (vv_move rfl) (fun c30 => ?_) (fun c30 => ?_)
                ·
                  replace hm := cnd_t c30 hm
                  refine sd_skip rfl rfl rfl ?_
                  refine sd_skip rfl rfl rfl ?_
                  refine sd_skip rfl rfl rfl ?_
                  refine sd_skip rfl rfl rfl ?_
                  refine sd_skip rfl rfl rfl ?_
                  refine sd_vv rfl rfl rfl (vv_pickT rfl rfl) ?_
                  refine sd_nil ?_
                  have K_140 : Kz [] w2 w59 := (Kz.gr (Kz.gr (Kz.gr (Kz.gr (Kz.gr (Kz.gr (Kz.gr (Kz.gr (Kz.gr (Kz.gr (Kz.gr (Kz.gr (Kz.refl _ _) Gw48) Gw49) Gw50) Gw51) Gw52) Gw53) Gw54) Gw55) Gw56) Gw57) Gw58) Gw59)
                  refine ⟨rfl, true, ?_, hm, K_140⟩
                  repeat' first | exact trivial | refine ⟨rfl, ?_⟩
                ·
                  replace hm := cnd_f c30 hm
                  have hb := bnd hm; clear hm; obtain ⟨x45, hx45, hm⟩ := hb
                  refine sd_ev rfl rfl rfl (ev_call en_58 rfl (law03_of_w 3#8 6 _ hx45 _)) ?_
                  rintro _ w60 ⟨rfl, Gw60⟩
                  have z141 := Gw60.size
                  refine sd_ev rfl rfl rfl (ev_litT [0, 32] ic bsl_61_2 rfl rfl (ws_of rfl) rfl rfl rfl) ?_
                  rintro vw61 w61 ⟨gw61, hbw61, Ow61, Gw61⟩
                  have z142 := Gw61.size
                  have lt143 := Ow61.lth
                  refine sd_ev rfl rfl rfl (ev_litT [2, 8, 3, 12, 8, 64, 12, 96] ic bsl_61_8 rfl rfl (ws_of rfl) rfl rfl rfl) ?_
                  rintro vw62 w62 ⟨gw62, hbw62, Ow62, Gw62⟩
                  have z144 := Gw62.size
                  have lt145 := Ow62.lth
                  have B146 := (Own.gr Ow61 Gw62)
                  have hb := bnd hm; clear hm; obtain ⟨x46, hx46, hm⟩ := hb
                  refine sd_ev rfl rfl rfl (ev_call en_63 rfl (law03_covers_w x45 [0, 32] [2, 8, 3, 12, 8, 64, 12, 96] _ _ _ _ _ _ _ _ _ hx46 _ (Own.rd B146) (Own.rd Ow62))) ?_
                  rintro _ w63 ⟨rfl, Gw63⟩
                  have z147 := Gw63.size
                  refine sd_vv rfl rfl rfl (vv_not rfl) ?_
                  refine sd_vv rfl rfl rfl (vv_pickF rfl rfl) ?_
                  refine sd_nil ?_
                  have K_148 : Kz [] w2 w63 := (Kz.gr (Kz.gr (Kz.gr (Kz.gr (Kz.gr (Kz.gr (Kz.gr (Kz.gr (Kz.gr (Kz.gr (Kz.gr (Kz.gr (Kz.gr (Kz.gr (Kz.gr (Kz.gr (Kz.refl _ _) Gw48) Gw49) Gw50) Gw51) Gw52) Gw53) Gw54) Gw55) Gw56) Gw57) Gw58) Gw59) Gw60) Gw61) Gw62) Gw63)
                  refine ⟨rfl, (!x46), ?_, hm, K_148⟩
                  repeat' first | exact trivial | refine ⟨rfl, ?_⟩
      ·
        -- region 3 outright.go:59
        refine sw_region [(0, 0), (1, 0), (2, 0), (3, 0), (4, 0), (5, 0), (6, 0), (7, 0), (8, 0), (9, 0), (10, 0), (11, 0), (12, 0), (13, 0), (14, 0), (15, 0), (16, 0), (17, 0), (18, 0), (19, 0), (20, 0), (21, 0), (22, 0), (23, 0), (24, 0), (25, 0), (26, 0), (27, 0), (28, 0)] rfl rfl rfl ?_
        have hb := bnd hm; clear hm; obtain ⟨x47, hx47, hm⟩ := hb
        refine sd_ev rfl rfl rfl (ev_call en_58 rfl (law03_of_w 2#8 3 _ hx47 _)) ?_
        rintro _ w64 ⟨rfl, Gw64⟩
        have z149 := Gw64.size
        refine sd_ev rfl rfl rfl (ev_litT [0, 7] ic bsl_61_2 rfl rfl (ws_of rfl) rfl rfl rfl) ?_
        rintro vw65 w65 ⟨gw65, hbw65, Ow65, Gw65⟩
        have z150 := Gw65.size
        have lt151 := Ow65.lth
        refine sd_ev rfl rfl rfl (ev_litT [2, 8, 3, 15] ic bsl_61_4 rfl rfl (ws_of rfl) rfl rfl rfl) ?_
        rintro vw66 w66 ⟨gw66, hbw66, Ow66, Gw66⟩
        have z152 := Gw66.size
        have lt153 := Ow66.lth
        have B154 := (Own.gr Ow65 Gw66)
        have hb := bnd hm; clear hm; obtain ⟨x48, hx48, hm⟩ := hb
        refine sd_ev rfl rfl rfl (ev_call en_63 rfl (law03_covers_w x47 [0, 7] [2, 8, 3, 15] _ _ _ _ _ _ _ _ _ hx48 _ (Own.rd B154) (Own.rd Ow66))) ?_
        rintro _ w67 ⟨rfl, Gw67⟩
        have z155 := Gw67.size
        refine sd_vv rfl rfl rfl (vv_not rfl) ?_
        refine sd_split rfl rfl rfl (vv_move rfl) (fun c31 => ?_) (fun c31 => ?_)
        ·
          replace hm := cnd_t c31 hm
          refine sd_skip rfl rfl rfl ?_
          refine sd_skip rfl rfl rfl ?_
          refine sd_skip rfl rfl rfl ?_
          refine sd_skip rfl rfl rfl ?_
          refine sd_vv rfl rfl rfl (vv_pickT rfl rfl) ?_
          refine sd_vv rfl rfl rfl (vv_move rfl) ?_
          refine sd_skip rfl rfl rfl ?_
          refine sd_skip rfl rfl rfl ?_
          refine sd_skip rfl rfl rfl ?_
          refine sd_skip rfl rfl rfl ?_
          refine sd_vv rfl rfl rfl (vv_pickT rfl rfl) ?_
          refine sd_vv rfl rfl rfl (vv_move rfl) ?_
          refine sd_skip rfl rfl rfl ?_
          refine sd_skip rfl rfl rfl ?_
          refine sd_skip rfl rfl rfl ?_
          refine sd_skip rfl rfl rfl ?_
          refine sd_vv rfl rfl rfl (vv_pickT rfl rfl) ?_
          refine sd_vv rfl rfl rfl (vv_move rfl) ?_
          refine sd_skip rfl rfl rfl ?_
          refine sd_skip rfl rfl rfl ?_
          refine sd_skip rfl rfl rfl ?_
          refine sd_skip rfl rfl rfl ?_
          refine sd_vv rfl rfl rfl (vv_pickT rfl rfl) ?_
          refine sd_nil ?_
          have K_156 : Kz [] w1 w67 := (Kz.gr (Kz.gr (Kz.gr (Kz.gr (Kz.refl _ _) Gw64) Gw65) Gw66) Gw67)
          refine ⟨rfl, true, ?_, hm, K_156⟩
          repeat' first | exact trivial | refine ⟨rfl, ?_⟩
        ·
          replace hm := cnd_f c31 hm
          have hb := bnd hm; clear hm; obtain ⟨x49, hx49, hm⟩ := hb
          refine sd_ev rfl rfl rfl (ev_call en_58 rfl (law03_of_w 1#8 3 _ hx49 _)) ?_
          rintro _ w68 ⟨rfl, Gw68⟩
          have z157 := Gw68.size
          refine sd_ev rfl rfl rfl (ev_litT [1, 0] ic bsl_61_2 rfl rfl (ws_of rfl) rfl rfl rfl) ?_
          rintro vw69 w69 ⟨gw69, hbw69, Ow69, Gw69⟩
          have z158 := Gw69.size
          have lt159 := Ow69.lth
          have hb := bnd hm; clear hm; obtain ⟨x50, hx50, hm⟩ := hb
          refine sd_ev rfl rfl rfl (ev_call en_63 rfl (law03_covers_w x49 ([] : List Int) [1, 0] _ _ _ _ _ _ _ _ _ hx50 _ (Own.rd (own_nil _ 0 3 1)) (Own.rd Ow69))) ?_
          rintro _ w70 ⟨rfl, Gw70⟩
          have z160 := Gw70.size
          refine sd_vv rfl rfl rfl (vv_not rfl) ?_
          refine sd_vv rfl rfl rfl (vv_pickF rfl rfl) ?_
          refine sd_split rfl rfl rfl (vv_move rfl) (fun c32 => ?_) (fun c32 => ?_)
          ·
            replace hm := cnd_t c32 hm
            refine sd_skip rfl rfl rfl ?_
            refine sd_skip rfl rfl rfl ?_
            refine sd_skip rfl rfl rfl ?_
            refine sd_skip rfl rfl rfl ?_
            refine sd_vv rfl rfl rfl (vv_pickT rfl rfl) ?_
            refine sd_vv rfl rfl rfl (vv_move rfl) ?_
            refine sd_skip rfl rfl rfl ?_
            refine sd_skip rfl rfl rfl ?_
            refine sd_skip rfl rfl rfl ?_
            refine sd_skip rfl rfl rfl ?_
            refine sd_vv rfl rfl rfl (vv_pickT rfl rfl) ?_
            refine sd_vv rfl rfl rfl (vv_move rfl) ?_
            refine sd_skip rfl rfl rfl ?_
            refine sd_skip rfl rfl rfl ?_
            refine sd_skip rfl rfl rfl ?_
            refine sd_skip rfl rfl rfl ?_
            refine sd_vv rfl rfl rfl (vv_pickT rfl rfl) ?_
            refine sd_nil ?_
            have K_161 : Kz [] w1 w70 := (Kz.gr (Kz.gr (Kz.gr (Kz.gr (Kz.gr (Kz.gr (Kz.gr (Kz.refl _ _) Gw64) Gw65) Gw66) Gw67) Gw68) Gw69) Gw70)
            refine ⟨rfl, true, ?_, hm, K_161⟩
            repeat' first | exact trivial | refine ⟨rfl, ?_⟩
          ·
            replace hm := cnd_f c32 hm
            have hb := bnd hm; clear hm; obtain ⟨x51, hx51, hm⟩ := hb
            refine sd_ev rfl rfl rfl (ev_call en_58 rfl (law03_of_w 2#8 3 _ hx51 _)) ?_
            rintro _ w71 ⟨rfl, Gw71⟩
            have z162 := Gw71.size
            refine sd_ev rfl rfl rfl (ev_litT [1, 0] ic bsl_61_2 rfl rfl (ws_of rfl) rfl rfl rfl) ?_
            rintro vw72 w72 ⟨gw72, hbw72, Ow72, Gw72⟩
            have z163 := Gw72.size
            have lt164 := Ow72.lth
            have hb := bnd hm; clear hm; obtain ⟨x52, hx52, hm⟩ := hb
            refine sd_ev rfl rfl rfl (ev_call en_63 rfl (law03_covers_w x51 ([] : List Int) [1, 0] _ _ _ _ _ _ _ _ _ hx52 _ (Own.rd (own_nil _ 0 3 1)) (Own.rd Ow72))) ?_
            rintro _ w73 ⟨rfl, Gw73⟩
            have z165 := Gw73.size
            refine sd_vv rfl rfl rfl (vv_not rfl) ?_
            refine sd_vv rfl rfl rfl (vv_pickF rfl rfl) ?_
            refine sd_split rfl rfl rfl (vv_move rfl) (fun c33 => ?_) (fun c33 => ?_)
            ·
              replace hm := cnd_t c33 hm
              refine sd_skip rfl rfl rfl ?_
              refine sd_skip rfl rfl rfl ?_
              refine sd_skip rfl rfl rfl ?_
              refine sd_skip rfl rfl rfl ?_
              refine sd_vv rfl rfl rfl (vv_pickT rfl rfl) ?_
              refine sd_vv rfl rfl rfl (vv_move rfl) ?_
              refine sd_skip rfl rfl rfl ?_
              refine sd_skip rfl rfl rfl ?_
              refine sd_skip rfl rfl rfl ?_
              refine sd_skip rfl rfl rfl ?_
              refine sd_vv rfl rfl rfl (vv_pickT rfl rfl) ?_
              refine sd_nil ?_
              have K_166 : Kz [] w1 w73 := (Kz.gr (Kz.gr (Kz.gr (Kz.gr (Kz.gr (Kz.gr (Kz.gr (Kz.gr (Kz.gr (Kz.gr (Kz.refl _ _) Gw64) Gw65) Gw66) Gw67) Gw68) Gw69) Gw70) Gw71) Gw72) Gw73)
              refine ⟨rfl, true, ?_, hm, K_166⟩
              repeat' first | exact trivial | refine ⟨rfl, ?_⟩
            ·
              replace hm := cnd_f c33 hm
              have hb := bnd hm; clear hm; obtain ⟨x53, hx53, hm⟩ := hb
              refine sd_ev rfl rfl rfl (ev_call en_58 rfl (law03_of_w 2#8 3 _ hx53 _)) ?_
              rintro _ w74 ⟨rfl, Gw74⟩
              have z167 := Gw74.size
              refine sd_ev rfl rfl rfl (ev_litT [0, 1, 2, 3, 4, 5, 6, 7] ic bsl_61_8 rfl rfl (ws_of rfl) rfl rfl rfl) ?_
              rintro vw75 w75 ⟨gw75, hbw75, Ow75, Gw75⟩
              have z168 := Gw75.size
              have lt169 := Ow75.lth
              have hb := bnd hm; clear hm; obtain ⟨x54, hx54, hm⟩ := hb
              refine sd_ev rfl rfl rfl (ev_call en_63 rfl (law03_covers_w x53 [0, 1, 2, 3, 4, 5, 6, 7] ([] : List Int) _ _ _ _ _ _ _ _ _ hx54 _ (Own.rd Ow75) (Own.rd (own_nil _ 0 3 1)))) ?_
              rintro _ w76 ⟨rfl, Gw76⟩
              have z170 := Gw76.size
              refine sd_vv rfl rfl rfl (vv_not rfl) ?_
              refine sd_vv rfl rfl rfl (vv_pickF rfl rfl) ?_
              refine sd_split rfl rfl rfl (vv_move rfl) (fun c34 => ?_) (fun c34 => ?_)
              ·
                replace hm := cnd_t c34 hm
                refine sd_skip rfl rfl rfl ?_
                refine sd_skip rfl rfl rfl ?_
                refine sd_skip rfl rfl rfl ?_
                refine sd_skip rfl rfl rfl ?_
                refine sd_vv rfl rfl rfl (vv_pickT rfl rfl) ?_
                refine sd_nil ?_
                have K_171 : Kz [] w1 w76 := (Kz.gr (Kz.gr (Kz.gr (Kz.gr (Kz.gr (Kz.gr (Kz.gr (Kz.gr (Kz.gr (Kz.gr (Kz.gr (Kz.gr (Kz.gr (Kz.refl _ _) Gw64) Gw65) Gw66) Gw67) Gw68) Gw69) Gw70) Gw71) Gw72) Gw73) Gw74) Gw75) Gw76)
                refine ⟨rfl, true, ?_, hm, K_171⟩
                repeat' first | exact trivial | refine ⟨rfl, ?_⟩
              ·
                replace hm := cnd_f c34 hm
                have hb := bnd hm; clear hm; obtain ⟨x55, hx55, hm⟩ := hb
                refine sd_ev rfl rfl rfl (ev_call en_58 rfl (law03_of_w 1#8 3 _ hx55 _)) ?_
                rintro _ w77 ⟨rfl, Gw77⟩
                have z172 := Gw77.size
                refine sd_ev rfl rfl rfl (ev_litT [0, 1, 2, 3, 4, 5, 6, 7] ic bsl_61_8 rfl rfl (ws_of rfl) rfl rfl rfl) ?_
                rintro vw78 w78 ⟨gw78, hbw78, Ow78, Gw78⟩
                have z173 := Gw78.size
                have lt174 := Ow78.lth
                have hb := bnd hm; clear hm; obtain ⟨x56, hx56, hm⟩ := hb
                refine sd_ev rfl rfl rfl (ev_call en_63 rfl (law03_covers_w x55 [0, 1, 2, 3, 4, 5, 6, 7] ([] : List Int) _ _ _ _ _ _ _ _ _ hx56 _ (Own.rd Ow78) (Own.rd (own_nil _ 0 3 1)))) ?_
                rintro _ w79 ⟨rfl, Gw79⟩
                have z175 := Gw79.size
                refine sd_vv rfl rfl rfl (vv_not rfl) ?_
                refine sd_vv rfl rfl rfl (vv_pickF rfl rfl) ?_
                refine sd_nil ?_
                have K_176 : Kz [] w1 w79 := (Kz.gr (Kz.gr (Kz.gr (Kz.gr (Kz.gr (Kz.gr (Kz.gr (Kz.gr (Kz.gr (Kz.gr (Kz.gr (Kz.gr (Kz.gr (Kz.gr (Kz.gr (Kz.gr (Kz.refl _ _) Gw64) Gw65) Gw66) Gw67) Gw68) Gw69) Gw70) Gw71) Gw72) Gw73) Gw74) Gw75) Gw76) Gw77) Gw78) Gw79)
                refine ⟨rfl, (!x56), ?_, hm, K_176⟩
                repeat' first | exact trivial | refine ⟨rfl, ?_⟩
  ·
    -- region 1 outright.go:56
    refine sw_region [(0, 0), (1, 0), (2, 0), (3, 0), (4, 0), (5, 0), (6, 0), (7, 0), (8, 0), (9, 0), (10, 0), (11, 0), (12, 0), (13, 0), (14, 0), (15, 0), (16, 0), (17, 0), (18, 0), (19, 0), (20, 0), (21, 0), (22, 0), (23, 0), (24, 0), (25, 0), (26, 0), (27, 0), (28, 0), (29, 0), (30, 0), (31, 0), (32, 0), (33, 0), (34, 0), (35, 0), (36, 0), (37, 0), (38, 0)] rfl rfl rfl ?_
    refine sd_vv rfl rfl rfl (vv_move rfl) ?_
    have hb := bnd hm; clear hm; obtain ⟨x57, hx57, hm⟩ := hb
    refine sd_ev rfl rfl rfl (ev_call en_56 rfl (law03_alive_w _ hx57 _)) ?_
    rintro _ w80 ⟨rfl, Gw80⟩
    have z177 := Gw80.size
    refine sd_vv rfl rfl rfl (vv_not rfl) ?_
    refine sd_vv rfl rfl rfl (vv_pickF rfl rfl) ?_
    refine sd_split rfl rfl rfl (vv_move rfl) (fun c35 => ?_) (fun c35 => ?_)
    ·
      replace hm := cnd_t c35 hm
      refine sd_skip rfl rfl rfl ?_
      refine sd_skip rfl rfl rfl ?_
      refine sd_skip rfl rfl rfl ?_
      refine sd_skip rfl rfl rfl ?_
      refine sd_skip rfl rfl rfl ?_
      refine sd_vv rfl rfl rfl (vv_pickT rfl rfl) ?_
      refine sd_vv rfl rfl rfl (vv_move rfl) ?_
      refine sd_skip rfl rfl rfl ?_
      refine sd_skip rfl rfl rfl ?_
      refine sd_skip rfl rfl rfl ?_
      refine sd_skip rfl rfl rfl ?_
      refine sd_skip rfl rfl rfl ?_
      refine sd_vv rfl rfl rfl (vv_pickT rfl rfl) ?_
      refine sd_vv rfl rfl rfl (vv_move rfl) ?_
      refine sd_skip rfl rfl rfl ?_
      refine sd_skip rfl rfl rfl ?_
      refine sd_skip rfl rfl rfl ?_
      refine sd_skip rfl rfl rfl ?_
      refine sd_skip rfl rfl rfl ?_
      refine sd_vv rfl rfl rfl (vv_pickT rfl rfl) ?_
      refine sd_vv rfl rfl rfl (vv_move rfl) ?_
      refine sd_skip rfl rfl rfl ?_
      refine sd_skip rfl rfl rfl ?_
      refine sd_skip rfl rfl rfl ?_
      refine sd_skip rfl rfl rfl ?_
      refine sd_skip rfl rfl rfl ?_
      refine sd_vv rfl rfl rfl (vv_pickT rfl rfl) ?_
      refine sd_vv rfl rfl rfl (vv_move rfl) ?_
      refine sd_skip rfl rfl rfl ?_
      refine sd_skip rfl rfl rfl ?_
      refine sd_skip rfl rfl rfl ?_
      refine sd_skip rfl rfl rfl ?_
      refine sd_skip rfl rfl rfl ?_
      refine sd_vv rfl rfl rfl (vv_pickT rfl rfl) ?_
      refine sd_nil ?_
      have K_178 : Kz [] w w80 := (Kz.gr (Kz.refl _ _) Gw80)
      refine ⟨rfl, true, ?_, hm, K_178⟩
      repeat' first | exact trivial | refine ⟨rfl, ?_⟩
    ·
      replace hm := cnd_f c35 hm
      have hb := bnd hm; clear hm; obtain ⟨x58, hx58, hm⟩ := hb
      refine sd_ev rfl rfl rfl (ev_call en_58 rfl (law03_of_w 2#8 3 _ hx58 _)) ?_
      rintro _ w81 ⟨rfl, Gw81⟩
      have z179 := Gw81.size
      refine sd_ev rfl rfl rfl (ev_litT [2, 3] ic bsl_61_2 rfl rfl (ws_of rfl) rfl rfl rfl) ?_
      rintro vw82 w82 ⟨gw82, hbw82, Ow82, Gw82⟩
      have z180 := Gw82.size
      have lt181 := Ow82.lth
      refine sd_ev rfl rfl rfl (ev_litT [1, 5] ic bsl_61_2 rfl rfl (ws_of rfl) rfl rfl rfl) ?_
      rintro vw83 w83 ⟨gw83, hbw83, Ow83, Gw83⟩
      have z182 := Gw83.size
      have lt183 := Ow83.lth
      have B184 := (Own.gr Ow82 Gw83)
      have hb := bnd hm; clear hm; obtain ⟨x59, hx59, hm⟩ := hb
      refine sd_ev rfl rfl rfl (ev_call en_63 rfl (law03_covers_w x58 [2, 3] [1, 5] _ _ _ _ _ _ _ _ _ hx59 _ (Own.rd B184) (Own.rd Ow83))) ?_
      rintro _ w84 ⟨rfl, Gw84⟩
      have z185 := Gw84.size
      refine sd_vv rfl rfl rfl (vv_not rfl) ?_
      refine sd_vv rfl rfl rfl (vv_pickF rfl rfl) ?_
      refine sd_split rfl rfl rfl (vv_move rfl) (fun c36 => ?_) (fun c36 => ?_)
      ·
        replace hm := cnd_t c36 hm
        refine sd_skip rfl rfl rfl ?_
        refine sd_skip rfl rfl rfl ?_
        refine sd_skip rfl rfl rfl ?_
        refine sd_skip rfl rfl rfl ?_
        refine sd_skip rfl rfl rfl ?_
        refine sd_vv rfl rfl rfl (vv_pickT rfl rfl) ?_
        refine sd_vv rfl rfl rfl (vv_move rfl) ?_
        refine sd_skip rfl rfl rfl ?_
        refine sd_skip rfl rfl rfl ?_
        refine sd_skip rfl rfl rfl ?_
        refine sd_skip rfl rfl rfl ?_
        refine sd_skip rfl rfl rfl ?_
        refine sd_vv rfl rfl rfl (vv_pickT rfl rfl) ?_
        refine sd_vv rfl rfl rfl (vv_move rfl) ?_
        refine sd_skip rfl rfl rfl ?_
        refine sd_skip rfl rfl rfl ?_
        refine sd_skip rfl rfl rfl ?_
        refine sd_skip rfl rfl rfl ?_
        refine sd_skip rfl rfl rfl ?_
        refine sd_vv rfl rfl rfl (vv_pickT rfl rfl) ?_
        refine sd_vv rfl rfl rfl (vv_move rfl) ?_
        refine sd_skip rfl rfl rfl ?_
        refine sd_skip rfl rfl rfl ?_
        refine sd_skip rfl rfl rfl ?_
        refine sd_skip rfl rfl rfl ?_
        refine sd_skip rfl rfl rfl ?_
        refine sd_vv rfl rfl rfl (vv_pickT rfl rfl) ?_
        refine sd_nil ?_
        have K_186 : Kz [] w w84 := (Kz.gr (Kz.gr (Kz.gr (Kz.gr (Kz.gr (Kz.refl _ _) Gw80) Gw81) Gw82) Gw83) Gw84)
        refine ⟨rfl, true, ?_, hm, K_186⟩
        repeat' first | exact trivial | refine ⟨rfl, ?_⟩
      ·
        replace hm := cnd_f c36 hm
        have hb := bnd hm; clear hm; obtain ⟨x60, hx60, hm⟩ := hb
        refine sd_ev rfl rfl rfl (ev_call en_58 rfl (law03_of_w 3#8 3 _ hx60 _)) ?_
        rintro _ w85 ⟨rfl, Gw85⟩
        have z187 := Gw85.size
        refine sd_ev rfl rfl rfl (ev_litT [2, 3] ic bsl_61_2 rfl rfl (ws_of rfl) rfl rfl rfl) ?_
        rintro vw86 w86 ⟨gw86, hbw86, Ow86, Gw86⟩
        have z188 := Gw86.size
        have lt189 := Ow86.lth
        refine sd_ev rfl rfl rfl (ev_litT [1, 5] ic bsl_61_2 rfl rfl (ws_of rfl) rfl rfl rfl) ?_
        rintro vw87 w87 ⟨gw87, hbw87, Ow87, Gw87⟩
        have z190 := Gw87.size
        have lt191 := Ow87.lth
        have B192 := (Own.gr Ow86 Gw87)
        have hb := bnd hm; clear hm; obtain ⟨x61, hx61, hm⟩ := hb
        refine sd_ev rfl rfl rfl (ev_call en_63 rfl (law03_covers_w x60 [2, 3] [1, 5] _ _ _ _ _ _ _ _ _ hx61 _ (Own.rd B192) (Own.rd Ow87))) ?_
        rintro _ w88 ⟨rfl, Gw88⟩
        have z193 := Gw88.size
        refine sd_vv rfl rfl rfl (vv_not rfl) ?_
        refine sd_vv rfl rfl rfl (vv_pickF rfl rfl) ?_
        refine sd_split rfl rfl rfl (vv_move rfl) (fun c37 => ?_) (fun c37 => ?_)
        ·
          replace hm := cnd_t c37 hm
          refine sd_skip rfl rfl rfl ?_
          refine sd_skip rfl rfl rfl ?_
          refine sd_skip rfl rfl rfl ?_
          refine sd_skip rfl rfl rfl ?_
          refine sd_skip rfl rfl rfl ?_
          refine sd_vv rfl rfl rfl (vv_pickT rfl rfl) ?_
          refine sd_vv rfl rfl rfl (vv_move rfl) ?_
          refine sd_skip rfl rfl rfl ?_
          refine sd_skip rfl rfl rfl ?_
          refine sd_skip rfl rfl rfl ?_
          refine sd_skip rfl rfl rfl ?_
          refine sd_skip rfl rfl rfl ?_
          refine sd_vv rfl rfl rfl (vv_pickT rfl rfl) ?_
          refine sd_vv rfl rfl rfl (vv_move rfl) ?_
          refine sd_skip rfl rfl rfl ?_
          refine sd_skip rfl rfl rfl ?_
          refine sd_skip rfl rfl rfl ?_
          refine sd_skip rfl rfl rfl ?_
          refine sd_skip rfl rfl rfl ?_
          refine sd_vv rfl rfl rfl (vv_pickT rfl rfl) ?_
          refine sd_nil ?_
          have K_194 : Kz [] w w88 := (Kz.gr (Kz.gr (Kz.gr (Kz.gr (Kz.gr (Kz.gr (Kz.gr (Kz.gr (Kz.gr (Kz.refl _ _) Gw80) Gw81) Gw82) Gw83) Gw84) Gw85) Gw86) Gw87) Gw88)
          refine ⟨rfl, true, ?_, hm, K_194⟩
          repeat' first | exact trivial | refine ⟨rfl, ?_⟩
        ·
          replace hm := cnd_f c37 hm
          have hb := bnd hm; clear hm; obtain ⟨x62, hx62, hm⟩ := hb
          refine sd_ev rfl rfl rfl (ev_call en_58 rfl (law03_of_w 1#8 3 _ hx62 _)) ?_
          rintro _ w89 ⟨rfl, Gw89⟩
          have z195 := Gw89.size
          refine sd_ev rfl rfl rfl (ev_litT [0] ic bsl_61_1 rfl rfl (ws_of rfl) rfl rfl rfl) ?_
          rintro vw90 w90 ⟨gw90, hbw90, Ow90, Gw90⟩
          have z196 := Gw90.size
          have lt197 := Ow90.lth
          refine sd_ev rfl rfl rfl (ev_litT [3, 0, 5, 0, 9, 0] ic bsl_61_6 rfl rfl (ws_of rfl) rfl rfl rfl) ?_
          rintro vw91 w91 ⟨gw91, hbw91, Ow91, Gw91⟩
          have z198 := Gw91.size
          have lt199 := Ow91.lth
          have B200 := (Own.gr Ow90 Gw91)
          have hb := bnd hm; clear hm; obtain ⟨x63, hx63, hm⟩ := hb
          refine sd_ev rfl rfl rfl (ev_call en_63 rfl (law03_covers_w x62 [0] [3, 0, 5, 0, 9, 0] _ _ _ _ _ _ _ _ _ hx63 _ (Own.rd B200) (Own.rd Ow91))) ?_
          rintro _ w92 ⟨rfl, Gw92⟩
          have z201 := Gw92.size
          refine sd_vv rfl rfl rfl (vv_not rfl) ?_
          refine sd_vv rfl rfl rfl (vv_pickF rfl rfl) ?_
          refine sd_split rfl rfl rfl (vv_move rfl) (fun c38 => ?_) (fun c38 => ?_)
          ·
            replace hm := cnd_t c38 hm
            refine sd_skip rfl rfl rfl ?_
            refine sd_skip rfl rfl rfl ?_
            refine sd_skip rfl rfl rfl ?_
            refine sd_skip rfl rfl rfl ?_
            refine sd_skip rfl rfl rfl ?_
            refine sd_vv rfl rfl rfl (vv_pickT rfl rfl) ?_
            refine sd_vv rfl rfl rfl (vv_move rfl) ?_
            refine sd_skip rfl rfl rfl ?_
            refine sd_skip rfl rfl rfl ?_
            refine sd_skip rfl rfl rfl ?_
            refine sd_skip rfl rfl rfl ?_
            refine sd_skip rfl rfl rfl ?_
            refine sd_vv rfl rfl rfl (vv_pickT rfl rfl) ?_
            refine sd_nil ?_
            have K_202 : Kz [] w w92 := (Kz.gr (Kz.gr (Kz.gr (Kz.gr (Kz.gr (Kz.gr (Kz.gr (Kz.gr (Kz.gr (Kz.gr (Kz.gr (Kz.gr (Kz.gr (Kz.refl _ _) Gw80) Gw81) Gw82) Gw83) Gw84) Gw85) Gw86) Gw87) Gw88) Gw89) Gw90) Gw91) Gw92)
            refine ⟨rfl, true, ?_, hm, K_202⟩
            repeat' first | exact trivial | refine ⟨rfl, ?_⟩
          ·
            replace hm := cnd_f c38 hm
            have hb := bnd hm; clear hm; obtain ⟨x64, hx64, hm⟩ := hb
            refine sd_ev rfl rfl rfl (ev_call en_58 rfl (law03_of_w 2#8 3 _ hx64 _)) ?_
            rintro _ w93 ⟨rfl, Gw93⟩
            have z203 := Gw93.size
            refine sd_ev rfl rfl rfl (ev_litT [0] ic bsl_61_1 rfl rfl (ws_of rfl) rfl rfl rfl) ?_
            rintro vw94 w94 ⟨gw94, hbw94, Ow94, Gw94⟩
            have z204 := Gw94.size
            have lt205 := Ow94.lth
            refine sd_ev rfl rfl rfl (ev_litT [1, 8] ic bsl_61_2 rfl rfl (ws_of rfl) rfl rfl rfl) ?_
            rintro vw95 w95 ⟨gw95, hbw95, Ow95, Gw95⟩
            have z206 := Gw95.size
            have lt207 := Ow95.lth
            have B208 := (Own.gr Ow94 Gw95)
            have hb := bnd hm; clear hm; obtain ⟨x65, hx65, hm⟩ := hb
            refine sd_ev rfl rfl rfl (ev_call en_63 rfl (law03_covers_w x64 [0] [1, 8] _ _ _ _ _ _ _ _ _ hx65 _ (Own.rd B208) (Own.rd Ow95))) ?_
            rintro _ w96 ⟨rfl, Gw96⟩
            have z209 := Gw96.size
            refine sd_vv rfl rfl rfl (vv_not rfl) ?_
            refine sd_vv rfl rfl rfl (vv_pickF rfl rfl) ?_
            refine sd_split rfl rfl rfl (vv_move rfl) (fun c39 => ?_) (fun c39 => ?_)
            ·
              replace hm := cnd_t c39 hm
              refine sd_skip rfl rfl rfl ?_
              refine sd_skip rfl rfl rfl ?_
              refine sd_skip rfl rfl rfl ?_
              refine sd_skip rfl rfl rfl ?_
              refine sd_skip rfl rfl rfl ?_
              refine sd_vv rfl rfl rfl (vv_pickT rfl rfl) ?_
              refine sd_nil ?_
              have K_210 : Kz [] w w96 := (Kz.gr (Kz.gr (Kz.gr (Kz.gr (Kz.gr (Kz.gr (Kz.gr (Kz.gr (Kz.gr (Kz.gr (Kz.gr (Kz.gr (Kz.gr (Kz.gr (Kz.gr (Kz.gr (Kz.gr (Kz.refl _ _) Gw80) Gw81) Gw82) Gw83) Gw84) Gw85) Gw86) Gw87) Gw88) Gw89) Gw90) Gw91) Gw92) Gw93) Gw94) Gw95) Gw96)
              refine ⟨rfl, true, ?_, hm, K_210⟩
              repeat' first | exact trivial | refine ⟨rfl, ?_⟩
            ·
              replace hm := cnd_f c39 hm
              have hb := bnd hm; clear hm; obtain ⟨x66, hx66, hm⟩ := hb
              refine sd_ev rfl rfl rfl (ev_call en_58 rfl (law03_of_w 3#8 3 _ hx66 _)) ?_
              rintro _ w97 ⟨rfl, Gw97⟩
              have z211 := Gw97.size
              refine sd_ev rfl rfl rfl (ev_litT [0] ic bsl_61_1 rfl rfl (ws_of rfl) rfl rfl rfl) ?_
              rintro vw98 w98 ⟨gw98, hbw98, Ow98, Gw98⟩
              have z212 := Gw98.size
              have lt213 := Ow98.lth
              refine sd_ev rfl rfl rfl (ev_litT [1, 8] ic bsl_61_2 rfl rfl (ws_of rfl) rfl rfl rfl) ?_
              rintro vw99 w99 ⟨gw99, hbw99, Ow99, Gw99⟩
              have z214 := Gw99.size
              have lt215 := Ow99.lth
              have B216 := (Own.gr Ow98 Gw99)
              have hb := bnd hm; clear hm; obtain ⟨x67, hx67, hm⟩ := hb
              refine sd_ev rfl rfl rfl (ev_call en_63 rfl (law03_covers_w x66 [0] [1, 8] _ _ _ _ _ _ _ _ _ hx67 _ (Own.rd B216) (Own.rd Ow99))) ?_
              rintro _ w100 ⟨rfl, Gw100⟩
              have z217 := Gw100.size
              refine sd_vv rfl rfl rfl (vv_not rfl) ?_
              refine sd_vv rfl rfl rfl (vv_pickF rfl rfl) ?_
              refine sd_nil ?_
              have K_218 : Kz [] w w100 := (Kz.gr (Kz.gr (Kz.gr (Kz.gr (Kz.gr (Kz.gr (Kz.gr (Kz.gr (Kz.gr (Kz.gr (Kz.gr (Kz.gr (Kz.gr (Kz.gr (Kz.gr (Kz.gr (Kz.gr (Kz.gr (Kz.gr (Kz.gr (Kz.gr (Kz.refl _ _) Gw80) Gw81) Gw82) Gw83) Gw84) Gw85) Gw86) Gw87) Gw88) Gw89) Gw90) Gw91) Gw92) Gw93) Gw94) Gw95) Gw96) Gw97) Gw98) Gw99) Gw100)
              refine ⟨rfl, (!x67), ?_, hm, K_218⟩
              repeat' first | exact trivial | refine ⟨rfl, ?_⟩
end Go.Proofs.Ytecempahccgijaa.Mx
