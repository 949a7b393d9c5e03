/- Walks that follow mirrors: Pt. Printed by mx.py. -/
import Derived.Test.YtecempahccgijaaWPt
import Derived.Test.YtecempahccgijaaPtM
set_option linter.unusedVariables false
set_option linter.unusedSimpArgs false
set_option maxRecDepth 100000
namespace Go.Proofs.Ytecempahccgijaa.Mx
open Go Go.RowKit Go.Sx
theorem en_56 : En Try.prog 56 := fun _ _ => by kernel_rfl
theorem en_28 : En Try.prog 28 := fun _ _ => by kernel_rfl
theorem en_59 : En Try.prog 59 := fun _ _ => by kernel_rfl
theorem en_62 : En Try.prog 62 := fun _ _ => by kernel_rfl
theorem en_61 : En Try.prog 61 := fun _ _ => by kernel_rfl

set_option maxHeartbeats 2000000 in
theorem law03_CoverParted_w (p0 : TScheme) (p1 : TSubset)  (r : Bool) (hm : law03_CoverParted p0 p1 = some r) (w : World)   :
    Calls Try.prog 19 [.agg (TScheme.cs p0).toArray, .agg (TSubset.cs p1).toArray].toArray w fun e w' => ∃ v, e = .returned v ∧ (v = .bool r ∧ Gr w w') := by
  unfold law03_CoverParted at hm
  refine calls_of_sw (R := fun v w' => v = .bool r ∧ Gr w w') 153 Try.func19 rfl rfl rfl ?_
  refine sw_seq ?_
  -- region 0 outright.go:283
  refine sw_region [(0, 0), (1, 0), (2, 0)] rfl rfl rfl ?_
  refine sd_ev rfl rfl rfl (ev_box (cs := TScheme.cs p0) rfl rfl) ?_
  rintro _ w1 ⟨b1, rfl, hbw1, Bw1, Gw1⟩
  have z1 := Gw1.size
  have lt2 := Bw1.lt
  refine sd_ev rfl rfl rfl (ev_box (cs := TSubset.cs p1) rfl rfl) ?_
  rintro _ w2 ⟨b2, rfl, hbw2, Bw2, Gw2⟩
  have z3 := Gw2.size
  have lt4 := Bw2.lt
  refine sd_vv rfl rfl rfl (vv_assign rfl) ?_
  refine sd_done ?_
  refine sw_seq ?_
  -- region 1 outright.go:284
  refine sw_region [(0, 0), (1, 0)] rfl rfl rfl ?_
  have hb := bnd hm; clear hm; obtain ⟨x1, hx1, hm⟩ := hb
  refine sd_ev rfl rfl rfl (ev_call en_56 rfl (law03_alive_w _ hx1 _)) ?_
  rintro _ w3 ⟨rfl, Gw3⟩
  have z5 := Gw3.size
  refine sd_vv rfl rfl rfl (vv_assign rfl) ?_
  refine sd_done ?_
  refine sw_seq ?_
  -- region 2 outright.go:285
  refine sw_region [(0, 0), (1, 0), (2, 0), (3, 0), (4, 0), (5, 0), (6, 0), (7, 0)] rfl rfl rfl ?_
  have B6 := (Bx.gr (Bx.gr Bw1 Gw2) Gw3)
  refine sd_vv rfl rfl rfl (vv_loadW agg_45 rfl B6 rfl) ?_
  have B7 := (Bx.gr Bw2 Gw3)
  refine sd_vv rfl rfl rfl (vv_loadW agg_47 rfl B7 rfl) ?_
  have hb := bnd hm; clear hm; obtain ⟨x2, hx2, hm⟩ := hb
  refine sd_ev rfl rfl rfl (ev_call en_35 rfl (cover_Members_w p0 p1 _ hx2 _)) ?_
  rintro _ w4 ⟨u4_r0_s, z4_r0_s, g4_r0_s, rfl, O4_r0_s, f4_r0_s, Gw4⟩
  have z8 := Gw4.size
  have lt9 := O4_r0_s.lth
  refine sd_vv rfl rfl rfl (vv_move rfl) ?_
  refine sd_vv rfl rfl rfl (vv_extract rfl rfl) ?_
  refine sd_vv rfl rfl rfl (vv_extract rfl rfl) ?_
  refine sd_vv rfl rfl rfl (vv_assign rfl) ?_
  refine sd_vv rfl rfl rfl (vv_assign rfl) ?_
  refine sd_done ?_
  refine sw_seq ?_
  -- region 3 outright.go:286
  refine sw_region [(0, 0), (1, 0), (2, 0), (3, 0), (4, 0), (5, 0), (6, 0), (7, 0)] rfl rfl rfl ?_
  have B10 := (Bx.gr B6 Gw4)
  refine sd_vv rfl rfl rfl (vv_loadW agg_45 rfl B10 rfl) ?_
  have B11 := (Bx.gr B7 Gw4)
  refine sd_vv rfl rfl rfl (vv_loadW agg_47 rfl B11 rfl) ?_
  have hb := bnd hm; clear hm; obtain ⟨x3, hx3, hm⟩ := hb
  refine sd_ev rfl rfl rfl (ev_call en_28 rfl (cover_Split_w p0 p1 _ hx3 _)) ?_
  rintro _ w5 ⟨u5_r0_s, z5_r0_s, g5_r0_s, rfl, O5_r0_s, f5_r0_s, Gw5⟩
  have z12 := Gw5.size
  have lt13 := O5_r0_s.lth
  refine sd_vv rfl rfl rfl (vv_move rfl) ?_
  refine sd_vv rfl rfl rfl (vv_extract rfl rfl) ?_
  refine sd_vv rfl rfl rfl (vv_extract rfl rfl) ?_
  refine sd_vv rfl rfl rfl (vv_assign rfl) ?_
  refine sd_vv rfl rfl rfl (vv_assign rfl) ?_
  refine sd_done ?_
  refine sw_seq ?_
  have X14 : Gr w w5 := (Gr.trans (Gr.trans (Gr.trans (Gr.trans (Gr.trans (Gr.refl w) Gw1) Gw2) Gw3) Gw4) Gw5)
  refine sw_joinD (β := Bool) [30, 31, 32, 33, 34, 35, 36, 37, 38] (fun a4 => [(38, .bool a4)]) (fun a4 wr => (law03_CoverParted_J1 p0 x1 x2 x3 a4 = some r) ∧ Kz [] w5 wr) ?_ ?_
  · clear hm; rintro a4 w6 ⟨hm, Kw6⟩
    have z15 := Kw6.size
    unfold law03_CoverParted_J1 at hm
    refine sw_cond rfl (fun c1 => ?_) (fun c1 => ?_)
    ·
      replace hm := cnd_t c1 hm
      refine sw_seq ?_
      -- region 5 outright.go:288
      refine sw_region [(0, 0), (1, 0), (2, 0), (3, 0), (4, 0), (5, 0), (6, 0), (7, 0), (8, 0), (9, 0), (10, 0)] rfl rfl rfl ?_
      refine sd_vv rfl rfl rfl (vv_move rfl) ?_
      refine sd_split rfl rfl rfl (vv_move rfl) (fun c2 => ?_) (fun c2 => ?_)
      ·
        replace hm := cnd_t c2 hm
        refine sd_vv rfl rfl rfl (vv_move rfl) ?_
        refine sd_vv rfl rfl rfl (vv_neq (a := x2.2) (b := 0) rfl rfl) ?_
        refine sd_vv rfl rfl rfl (vv_pickT rfl rfl) ?_
        refine sd_split rfl rfl rfl (vv_move rfl) (fun c3 => ?_) (fun c3 => ?_)
        ·
          replace hm := ite_t (of_decide_eq_true c3) hm
          refine sd_vv rfl rfl rfl (vv_move rfl) ?_
          refine sd_vv rfl rfl rfl (vv_move rfl) ?_
          refine sd_vv rfl rfl rfl (vv_eql (a := x3.2) (b := x2.2) rfl rfl) ?_
          refine sd_vv rfl rfl rfl (vv_pickT rfl rfl) ?_
          refine sd_vv rfl rfl rfl (vv_assign rfl) ?_
          refine sd_done ?_
          refine sw_ret ?_
          refine then_r ?_
          have X16 : Gr w w6 := (Gr.kz X14 Kw6)
          have hr := Option.some.inj hm
          subst hr
          refine ⟨_, _, rfl, res_1 rfl (rv_tmp rfl), ?_⟩
          exact ⟨rfl, X16⟩
        ·
          replace hm := ite_f (of_decide_eq_false c3) hm
          refine sd_skip rfl rfl rfl ?_
          refine sd_skip rfl rfl rfl ?_
          refine sd_skip rfl rfl rfl ?_
          refine sd_vv rfl rfl rfl (vv_pickF rfl rfl) ?_
          refine sd_vv rfl rfl rfl (vv_assign rfl) ?_
          refine sd_done ?_
          refine sw_ret ?_
          refine then_r ?_
          have X17 : Gr w w6 := (Gr.kz X14 Kw6)
          have hr := Option.some.inj hm
          subst hr
          refine ⟨_, _, rfl, res_1 rfl (rv_tmp rfl), ?_⟩
          exact ⟨rfl, X17⟩
      ·
        replace hm := cnd_f c2 hm
        refine sd_skip rfl rfl rfl ?_
        refine sd_skip rfl rfl rfl ?_
        refine sd_vv rfl rfl rfl (vv_pickF rfl rfl) ?_
        refine sd_vv rfl rfl rfl (vv_move rfl) ?_
        refine sd_skip rfl rfl rfl ?_
        refine sd_skip rfl rfl rfl ?_
        refine sd_skip rfl rfl rfl ?_
        refine sd_vv rfl rfl rfl (vv_pickF rfl rfl) ?_
        refine sd_vv rfl rfl rfl (vv_assign rfl) ?_
        refine sd_done ?_
        refine sw_ret ?_
        refine then_r ?_
        have X18 : Gr w w6 := (Gr.kz X14 Kw6)
        have hr := Option.some.inj hm
        subst hr
        refine ⟨_, _, rfl, res_1 rfl (rv_tmp rfl), ?_⟩
        exact ⟨rfl, X18⟩
    ·
      replace hm := cnd_f c1 hm
      refine sw_skip ?_
      refine then_n ?_
      refine sw_seq ?_
      have X19 : Gr w w6 := (Gr.kz X14 Kw6)
      refine sw_joinD (β := Bool) [49, 50, 51, 52, 53, 54, 55] (fun a5 => [(55, .bool a5)]) (fun a5 wr => (law03_CoverParted_J2 p0 x1 x2 x3 a5 = some r) ∧ Kz [] w6 wr) ?_ ?_
      · clear hm; rintro a5 w7 ⟨hm, Kw7⟩
        have z20 := Kw7.size
        unfold law03_CoverParted_J2 at hm
        refine sw_cond rfl (fun c4 => ?_) (fun c4 => ?_)
        ·
          replace hm := cnd_t c4 hm
          refine sw_seq ?_
          -- region 7 outright.go:291
          refine sw_region [(0, 0)] rfl rfl rfl ?_
          refine sd_vv rfl rfl rfl (vv_assign rfl) ?_
          refine sd_done ?_
          refine sw_ret ?_
          refine then_r ?_
          have X21 : Gr w w7 := (Gr.kz X19 Kw7)
          have hr := Option.some.inj hm
          subst hr
          refine ⟨_, _, rfl, res_1 rfl (rv_tmp rfl), ?_⟩
          exact ⟨rfl, X21⟩
        ·
          replace hm := cnd_f c4 hm
          refine sw_skip ?_
          refine then_n ?_
          refine sw_seq ?_
          refine sw_seq ?_
          -- region 8 outright.go:293
          refine sw_region [(0, 0), (1, 0), (2, 0)] rfl rfl rfl ?_
          refine sd_vv rfl rfl rfl (vv_move rfl) ?_
          have B22 := (Own.kz (Own.kz (Own.gr O4_r0_s Gw5) Kw6) Kw7)
          refine sd_vv rfl rfl rfl (vv_lenT (l := x2.1) (c := ic) Try.underlying61 rfl (Own.rd B22)) ?_
          refine sd_vv rfl rfl rfl (vv_eql (a := (x2.1.length : Int)) (b := 1) rfl rfl) ?_
          refine sd_done ?_
          refine sw_cond rfl (fun c5 => ?_) (fun c5 => ?_)
          ·
            replace hm := ite_t (of_decide_eq_true c5) hm
            refine sw_seq ?_
            -- region 9 outright.go:294
            refine sw_region [(0, 0), (1, 0), (2, 0), (3, 0), (4, 0), (5, 0)] rfl rfl rfl ?_
            refine sd_vv rfl rfl rfl (vv_move rfl) ?_
            refine sd_split rfl rfl rfl (vv_move rfl) (fun c6 => ?_) (fun c6 => ?_)
            ·
              replace hm := cnd_t c6 hm
              refine sd_vv rfl rfl rfl (vv_move rfl) ?_
              refine sd_vv rfl rfl rfl (vv_eql (a := x3.2) (b := 6) rfl rfl) ?_
              refine sd_vv rfl rfl rfl (vv_pickT rfl rfl) ?_
              refine sd_vv rfl rfl rfl (vv_assign rfl) ?_
              refine sd_done ?_
              refine sw_ret ?_
              refine then_r ?_
              have X23 : Gr w w7 := (Gr.kz X19 Kw7)
              have hr := Option.some.inj hm
              subst hr
              refine ⟨_, _, rfl, res_1 rfl (rv_tmp rfl), ?_⟩
              exact ⟨rfl, X23⟩
            ·
              replace hm := cnd_f c6 hm
              refine sd_skip rfl rfl rfl ?_
              refine sd_skip rfl rfl rfl ?_
              refine sd_vv rfl rfl rfl (vv_pickF rfl rfl) ?_
              refine sd_vv rfl rfl rfl (vv_assign rfl) ?_
              refine sd_done ?_
              refine sw_ret ?_
              refine then_r ?_
              have X24 : Gr w w7 := (Gr.kz X19 Kw7)
              have hr := Option.some.inj hm
              subst hr
              refine ⟨_, _, rfl, res_1 rfl (rv_tmp rfl), ?_⟩
              exact ⟨rfl, X24⟩
          ·
            replace hm := ite_f (of_decide_eq_false c5) hm
            refine sw_skip ?_
            refine then_n ?_
            refine sw_seq ?_
            have X25 : Gr w w7 := (Gr.kz X19 Kw7)
            refine sw_joinD (β := Bool) [64, 65, 66, 67, 68, 69, 70] (fun a6 => [(70, .bool a6)]) (fun a6 wr => (law03_CoverParted_J3 p0 x1 x2 x3 a6 = some r) ∧ Kz [] w7 wr) ?_ ?_
            · clear hm; rintro a6 w8 ⟨hm, Kw8⟩
              have z26 := Kw8.size
              unfold law03_CoverParted_J3 at hm
              refine sw_cond rfl (fun c7 => ?_) (fun c7 => ?_)
              ·
                replace hm := cnd_t c7 hm
                refine sw_seq ?_
                -- region 11 outright.go:297
                refine sw_region [(0, 0)] rfl rfl rfl ?_
                refine sd_vv rfl rfl rfl (vv_assign rfl) ?_
                refine sd_done ?_
                refine sw_ret ?_
                refine then_r ?_
                have X27 : Gr w w8 := (Gr.kz X25 Kw8)
                have hr := Option.some.inj hm
                subst hr
                refine ⟨_, _, rfl, res_1 rfl (rv_tmp rfl), ?_⟩
                exact ⟨rfl, X27⟩
              ·
                replace hm := cnd_f c7 hm
                refine sw_skip ?_
                refine then_n ?_
                refine sw_seq ?_
                -- region 12 outright.go:299 DRAWS
                refine sw_drawN [([])] [] (.leaf [(0, 10), (1, 10), (2, 10), (3, 10), (4, 0), (5, 10), (6, 10), (7, 10), (8, 10), (9, 10)]) (by kernel_rfl) (by kernel_rfl) rfl (by kernel_rfl) ?_
                intro w9 Gw9 zw9
                refine sdz_leaf ?_
                have B28 := (Bx.gr (Bx.kz (Bx.kz (Bx.kz (Bx.gr B10 Gw5) Kw6) Kw7) Kw8) Gw9)
                refine dd_hn 0 rfl rfl rfl rfl (Kp.refl ([]) w9) (fun w hS => vv_loadW agg_45 rfl (Bx.kp B28 hS) rfl) ?_
                refine dd_hn 0 rfl rfl rfl rfl (Kp.refl ([]) w9) (fun w hS => vv_move rfl) ?_
                have hb := bnd hm; clear hm; obtain ⟨y7, hy7, hm⟩ := hb
                have B29 := (Own.gr (Own.kz (Own.kz (Own.kz O5_r0_s Kw6) Kw7) Kw8) Gw9)
                refine dd_hn 0 rfl rfl rfl rfl (Kp.refl ([]) w9) (fun w hS => vv_ixT (i := 0) Try.underlying48 (agg_47).siz rfl (Own.rd (Own.kp B29 hS)) rfl hy7) ?_
                refine dd_hn 0 rfl rfl rfl rfl (Kp.refl ([]) w9) (fun w hS => vv_elWT agg_47 rfl (Own.rd (Own.kp B29 hS)) hy7 (by first | rfl | omega)) ?_
                have hb := bnd hm; clear hm; obtain ⟨x8, hx8, hm⟩ := hb
                refine dd_z [] rfl rfl rfl (ev_call en_35 rfl (cover_Members_w p0 y7 _ hx8 _)) ⟨fun _ => tk0, trivial⟩ ?_
                rintro _ w10 ⟨u10_r0_s, z10_r0_s, g10_r0_s, rfl, O10_r0_s, f10_r0_s, Gw10⟩
                have z30 := Gw10.size
                have lt31 := O10_r0_s.lth
                refine ⟨Kz.ofGr Gw10, ?_⟩
                have S32 := (Kp.gr (Kp.refl ([]) w9) Gw10)
                refine dd_hn 0 rfl rfl rfl rfl S32 (fun w hS => vv_move rfl) ?_
                refine dd_hn 0 rfl rfl rfl rfl S32 (fun w hS => vv_extract rfl rfl) ?_
                refine dd_hn 0 rfl rfl rfl rfl S32 (fun w hS => vv_extract rfl rfl) ?_
                refine dd_hn 0 rfl rfl rfl rfl S32 (fun w hS => vv_assign rfl) ?_
                refine dd_hn 0 rfl rfl rfl rfl S32 (fun w hS => vv_assign rfl) ?_
                refine sd_done ?_
                refine sw_seq ?_
                -- region 13 outright.go:300 DRAWS
                refine sw_drawN [([])] [] (.leaf [(0, 10), (1, 10), (2, 10), (3, 10), (4, 0), (5, 10), (6, 10), (7, 10), (8, 10), (9, 10)]) (by kernel_rfl) (by kernel_rfl) rfl (by kernel_rfl) ?_
                intro w11 Gw11 zw11
                refine sdz_leaf ?_
                have B33 := (Bx.gr (Bx.gr B28 Gw10) Gw11)
                refine dd_hn 0 rfl rfl rfl rfl (Kp.refl ([]) w11) (fun w hS => vv_loadW agg_45 rfl (Bx.kp B33 hS) rfl) ?_
                refine dd_hn 0 rfl rfl rfl rfl (Kp.refl ([]) w11) (fun w hS => vv_move rfl) ?_
                have hb := bnd hm; clear hm; obtain ⟨y9, hy9, hm⟩ := hb
                have B34 := (Own.gr (Own.gr B29 Gw10) Gw11)
                refine dd_hn 0 rfl rfl rfl rfl (Kp.refl ([]) w11) (fun w hS => vv_ixT (i := 1) Try.underlying48 (agg_47).siz rfl (Own.rd (Own.kp B34 hS)) rfl hy9) ?_
                refine dd_hn 0 rfl rfl rfl rfl (Kp.refl ([]) w11) (fun w hS => vv_elWT agg_47 rfl (Own.rd (Own.kp B34 hS)) hy9 (by first | rfl | omega)) ?_
                have hb := bnd hm; clear hm; obtain ⟨x10, hx10, hm⟩ := hb
                refine dd_z [] rfl rfl rfl (ev_call en_35 rfl (cover_Members_w p0 y9 _ hx10 _)) ⟨fun _ => tk0, trivial⟩ ?_
                rintro _ w12 ⟨u12_r0_s, z12_r0_s, g12_r0_s, rfl, O12_r0_s, f12_r0_s, Gw12⟩
                have z35 := Gw12.size
                have lt36 := O12_r0_s.lth
                refine ⟨Kz.ofGr Gw12, ?_⟩
                have S37 := (Kp.gr (Kp.refl ([]) w11) Gw12)
                refine dd_hn 0 rfl rfl rfl rfl S37 (fun w hS => vv_move rfl) ?_
                refine dd_hn 0 rfl rfl rfl rfl S37 (fun w hS => vv_extract rfl rfl) ?_
                refine dd_hn 0 rfl rfl rfl rfl S37 (fun w hS => vv_extract rfl rfl) ?_
                refine dd_hn 0 rfl rfl rfl rfl S37 (fun w hS => vv_assign rfl) ?_
                refine dd_hn 0 rfl rfl rfl rfl S37 (fun w hS => vv_assign rfl) ?_
                refine sd_done ?_
                refine sw_seq ?_
                have X38 : Gr w w12 := (Gr.trans (Gr.trans (Gr.trans (Gr.trans (Gr.kz X25 Kw8) Gw9) Gw10) Gw11) Gw12)
                refine sw_joinD (β := Bool) [7, 9, 87, 88, 89, 90, 91, 92, 93, 94, 95, 96, 97, 98, 99, 100, 101, 102, 103, 104, 105, 106, 107, 108, 109, 110, 111, 112] (fun a11 => [(112, .bool a11)]) (fun a11 wr => (law03_CoverParted_J4 p0 x1 x2 x3 a11 = some r) ∧ Kz [] w12 wr) ?_ ?_
                · clear hm; rintro a11 w13 ⟨hm, Kw13⟩
                  have z39 := Kw13.size
                  unfold law03_CoverParted_J4 at hm
                  refine sw_cond rfl (fun c8 => ?_) (fun c8 => ?_)
                  ·
                    replace hm := cnd_t c8 hm
                    refine sw_seq ?_
                    -- region 15 outright.go:302
                    refine sw_region [(0, 0)] rfl rfl rfl ?_
                    refine sd_vv rfl rfl rfl (vv_assign rfl) ?_
                    refine sd_done ?_
                    refine sw_ret ?_
                    refine then_r ?_
                    have X40 : Gr w w13 := (Gr.kz X38 Kw13)
                    have hr := Option.some.inj hm
                    subst hr
                    refine ⟨_, _, rfl, res_1 rfl (rv_tmp rfl), ?_⟩
                    exact ⟨rfl, X40⟩
                  ·
                    replace hm := cnd_f c8 hm
                    refine sw_skip ?_
                    refine then_n ?_
                    refine sw_seq ?_
                    refine sw_seq ?_
                    -- region 16 outright.go:304
                    refine sw_region [(0, 0)] rfl rfl rfl ?_
                    refine sd_vv rfl rfl rfl (vv_assign rfl) ?_
                    refine sd_done ?_
                    refine sw_block ?_
                    have X41 : Gr w w13 := (Gr.kz X38 Kw13)
                    have B42 := (Own.kz (Own.gr (Own.gr (Own.gr (Own.gr (Own.kz B22 Kw8) Gw9) Gw10) Gw11) Gw12) Kw13)
                    have B43 := (Own.kz (Own.gr B34 Gw12) Kw13)
                    have B44 := (Own.kz (Own.gr (Own.gr O10_r0_s Gw11) Gw12) Kw13)
                    have B45 := (Own.kz O12_r0_s Kw13)
                    refine sw_loopD (α := Nat × Int) [4, 12, 13, 14, 15, 16, 113, 114, 115, 116, 117, 118, 119, 120, 121, 122, 123, 124, 125, 126, 127, 128, 129, 130, 131, 132, 133, 134, 135, 136, 137, 138, 139, 140, 141, 142, 143, 144, 145, 146, 147, 148, 149, 150, 151] (fun ⟨n5, a13⟩ => [(4, .bool false), (12, .int .i64 a13)]) (fun ⟨n5, a13⟩ wr => (fixN (law03_CoverParted_L5 p0 x1 x2 x3) n5 a13 = some r) ∧ Kz [] w13 wr) (fun ⟨n5, a13⟩ => n5) ⟨FUEL, 0⟩ ?_ ?_ ?_
                    · repeat' first | exact trivial | refine ⟨rfl, ?_⟩
                    · exact ⟨hm, Kz.refl _ _⟩
                    · clear hm; rintro ⟨n5, a13⟩ w14 ⟨hm, Kw14⟩
                      have z46 := Kw14.size
                      have hb := fix_succ hm; clear hm; obtain ⟨n5, rfl, hm⟩ := hb
                      generalize hrec5 : fixN (law03_CoverParted_L5 p0 x1 x2 x3) n5 = rec5 at hm
                      unfold law03_CoverParted_L5 at hm
                      try dsimp only at hm
                      refine sw_seq ?_
                      refine sw_seq ?_
                      -- region 17 outright.go:304
                      refine sw_region [(0, 0), (1, 0), (2, 0), (3, 0)] rfl rfl rfl ?_
                      refine sd_vv rfl rfl rfl (vv_move rfl) ?_
                      refine sd_vv rfl rfl rfl (vv_move rfl) ?_
                      have B47 := (Own.kz B42 Kw14)
                      refine sd_vv rfl rfl rfl (vv_lenT (l := x2.1) (c := ic) Try.underlying61 rfl (Own.rd B47)) ?_
                      refine sd_vv rfl rfl rfl (vv_lss (a := a13) (b := (x2.1.length : Int)) rfl rfl) ?_
                      refine sd_done ?_
                      refine sw_cond rfl (fun c9 => ?_) (fun c9 => ?_)
                      ·
                        replace hm := ite_t (of_decide_eq_true c9) hm
                        refine sw_skip ?_
                        refine then_n ?_
                        refine sw_seq ?_
                        refine sw_block ?_
                        refine sw_seq ?_
                        -- region 19 outright.go:305 DRAWS
                        refine sw_drawN [([])] [] (.leaf [(0, 10), (1, 10), (2, 10), (3, 10), (4, 10), (5, 10), (6, 10), (7, 0), (8, 10), (9, 10), (10, 10), (11, 10), (12, 10)]) (by kernel_rfl) (by kernel_rfl) rfl (by kernel_rfl) ?_
                        intro w15 Gw15 zw15
                        refine sdz_leaf ?_
                        have B48 := (Bx.gr (Bx.kz (Bx.kz (Bx.gr B33 Gw12) Kw13) Kw14) Gw15)
                        refine dd_hn 0 rfl rfl rfl rfl (Kp.refl ([]) w15) (fun w hS => vv_loadW agg_45 rfl (Bx.kp B48 hS) rfl) ?_
                        refine dd_hn 0 rfl rfl rfl rfl (Kp.refl ([]) w15) (fun w hS => vv_move rfl) ?_
                        have hb := bnd hm; clear hm; obtain ⟨l14, hl14, hm⟩ := hb
                        have B49 := (Own.gr (Own.kz B43 Kw14) Gw15)
                        refine dd_slin (k := 0) rfl rfl rfl rfl (Kp.refl ([]) w15) (vv_sliT (P := Try.prog) (lo := 0) (hi := 1) (l := x3.1) (c := TSubset.cs) Try.underlying48 (agg_47).siz rfl (Own.rd B49) rfl ⟨_, rfl⟩ hl14) ?_
                        rintro v50 o50 R50
                        have lt51 := R50.lth
                        refine dd_hn 0 rfl rfl rfl rfl (Kp.refl ([]) w15) (fun w hS => vv_move rfl) ?_
                        refine dd_hn 0 rfl rfl rfl rfl (Kp.refl ([]) w15) (fun w hS => vv_move rfl) ?_
                        have hb := bnd hm; clear hm; obtain ⟨y15, hy15, hm⟩ := hb
                        have B52 := (Own.gr B47 Gw15)
                        refine dd_hn 0 rfl rfl rfl rfl (Kp.refl ([]) w15) (fun w hS => vv_ixT (i := a13) Try.underlying61 (one_3).siz rfl (Own.rd (Own.kp B52 hS)) rfl hy15) ?_
                        refine dd_hn 0 rfl rfl rfl rfl (Kp.refl ([]) w15) (fun w hS => vv_el1T (q := 0) (u := .int .i64 y15) one_3 rfl (Own.rd (Own.kp B52 hS)) hy15 (by first | rfl | omega) rfl) ?_
                        have hb := bnd hm; clear hm; obtain ⟨x16, hx16, hm⟩ := hb
                        refine dd_z [] rfl rfl rfl (ev_call en_61 rfl (law03_member_w p0 l14 y15 _ _ _ _ _ hx16 _ R50)) ⟨fun _ => tk0, trivial⟩ ?_
                        rintro _ w16 ⟨rfl, Gw16⟩
                        have z53 := Gw16.size
                        refine ⟨Kz.ofGr Gw16, ?_⟩
                        have S54 := (Kp.gr (Kp.refl ([]) w15) Gw16)
                        refine dd_hn 0 rfl rfl rfl rfl S54 (fun w hS => vv_move rfl) ?_
                        refine dd_hn 0 rfl rfl rfl rfl S54 (fun w hS => vv_extract rfl rfl) ?_
                        refine dd_hn 0 rfl rfl rfl rfl S54 (fun w hS => vv_extract rfl rfl) ?_
                        refine dd_hn 0 rfl rfl rfl rfl S54 (fun w hS => vv_assign rfl) ?_
                        refine dd_hn 0 rfl rfl rfl rfl S54 (fun w hS => vv_assign rfl) ?_
                        refine sd_done ?_
                        refine sw_seq ?_
                        -- region 20 outright.go:306 DRAWS
                        refine sw_drawN [([])] [] (.leaf [(0, 10), (1, 10), (2, 10), (3, 10), (4, 10), (5, 10), (6, 10), (7, 0), (8, 10), (9, 10), (10, 10), (11, 10), (12, 10)]) (by kernel_rfl) (by kernel_rfl) rfl (by kernel_rfl) ?_
                        intro w17 Gw17 zw17
                        refine sdz_leaf ?_
                        have B55 := (Bx.gr (Bx.gr B48 Gw16) Gw17)
                        refine dd_hn 0 rfl rfl rfl rfl (Kp.refl ([]) w17) (fun w hS => vv_loadW agg_45 rfl (Bx.kp B55 hS) rfl) ?_
                        refine dd_hn 0 rfl rfl rfl rfl (Kp.refl ([]) w17) (fun w hS => vv_move rfl) ?_
                        have hb := bnd hm; clear hm; obtain ⟨l17, hl17, hm⟩ := hb
                        have B56 := (Own.gr (Own.gr B49 Gw16) Gw17)
                        refine dd_slin (k := 0) rfl rfl rfl rfl (Kp.refl ([]) w17) (vv_sliT (P := Try.prog) (lo := 1) (hi := (x3.1.length : Int)) (l := x3.1) (c := TSubset.cs) Try.underlying48 (agg_47).siz rfl (Own.rd B56) ⟨_, rfl⟩ rfl hl17) ?_
                        rintro v57 o57 R57
                        have lt58 := R57.lth
                        refine dd_hn 0 rfl rfl rfl rfl (Kp.refl ([]) w17) (fun w hS => vv_move rfl) ?_
                        refine dd_hn 0 rfl rfl rfl rfl (Kp.refl ([]) w17) (fun w hS => vv_move rfl) ?_
                        have hb := bnd hm; clear hm; obtain ⟨y18, hy18, hm⟩ := hb
                        have B59 := (Own.gr (Own.gr B52 Gw16) Gw17)
                        refine dd_hn 0 rfl rfl rfl rfl (Kp.refl ([]) w17) (fun w hS => vv_ixT (i := a13) Try.underlying61 (one_3).siz rfl (Own.rd (Own.kp B59 hS)) rfl hy18) ?_
                        refine dd_hn 0 rfl rfl rfl rfl (Kp.refl ([]) w17) (fun w hS => vv_el1T (q := 0) (u := .int .i64 y18) one_3 rfl (Own.rd (Own.kp B59 hS)) hy18 (by first | rfl | omega) rfl) ?_
                        have hb := bnd hm; clear hm; obtain ⟨x19, hx19, hm⟩ := hb
                        refine dd_z [] rfl rfl rfl (ev_call en_61 rfl (law03_member_w p0 l17 y18 _ _ _ _ _ hx19 _ R57)) ⟨fun _ => tk0, trivial⟩ ?_
                        rintro _ w18 ⟨rfl, Gw18⟩
                        have z60 := Gw18.size
                        refine ⟨Kz.ofGr Gw18, ?_⟩
                        have S61 := (Kp.gr (Kp.refl ([]) w17) Gw18)
                        refine dd_hn 0 rfl rfl rfl rfl S61 (fun w hS => vv_move rfl) ?_
                        refine dd_hn 0 rfl rfl rfl rfl S61 (fun w hS => vv_extract rfl rfl) ?_
                        refine dd_hn 0 rfl rfl rfl rfl S61 (fun w hS => vv_extract rfl rfl) ?_
                        refine dd_hn 0 rfl rfl rfl rfl S61 (fun w hS => vv_assign rfl) ?_
                        refine dd_hn 0 rfl rfl rfl rfl S61 (fun w hS => vv_assign rfl) ?_
                        refine sd_done ?_
                        have X62 : Gr w w18 := (Gr.trans (Gr.trans (Gr.trans (Gr.trans (Gr.kz X41 Kw14) Gw15) Gw16) Gw17) Gw18)
                        refine sw_joinD (β := Bool) [141, 142, 143, 144, 145, 146, 147, 148, 149, 150, 151] (fun a20 => [(151, .bool a20)]) (fun a20 wr => (law03_CoverParted_J6 a13 rec5 a20 = some r) ∧ Kz [] w18 wr) ?_ ?_
                        · clear hm; rintro a20 w19 ⟨hm, Kw19⟩
                          have z63 := Kw19.size
                          unfold law03_CoverParted_J6 at hm
                          refine sw_cond rfl (fun c10 => ?_) (fun c10 => ?_)
                          ·
                            replace hm := cnd_t c10 hm
                            refine sw_seq ?_
                            -- region 22 outright.go:308
                            refine sw_region [(0, 0)] rfl rfl rfl ?_
                            refine sd_vv rfl rfl rfl (vv_assign rfl) ?_
                            refine sd_done ?_
                            refine sw_ret ?_
                            refine block_r ?_
                            refine then_r ?_
                            refine then_r ?_
                            refine block_r ?_
                            refine then_r ?_
                            have X64 : Gr w w19 := (Gr.kz X62 Kw19)
                            have hr := Option.some.inj hm
                            subst hr
                            refine ⟨_, _, rfl, res_1 rfl (rv_tmp rfl), ?_⟩
                            exact ⟨rfl, X64⟩
                          ·
                            replace hm := cnd_f c10 hm
                            refine sw_skip ?_
                            refine block_n ?_
                            refine then_n ?_
                            -- region 18 outright.go:304
                            refine sw_region [(0, 0), (1, 0), (2, 0)] rfl rfl rfl ?_
                            refine sd_vv rfl rfl rfl (vv_move rfl) ?_
                            refine sd_vv rfl rfl rfl (vv_add (k := .i64) (a := a13) (b := 1) rfl rfl) ?_
                            refine sd_vv rfl rfl rfl (vv_assign rfl) ?_
                            refine sd_nil ?_
                            have K_65 : Kz [] w13 w19 := (Kz.kz (Kz.gr (Kz.gr (Kz.gr (Kz.gr Kw14 Gw15) Gw16) Gw17) Gw18) Kw19)
                            subst hrec5
                            refine ⟨rfl, ⟨n5, w64 (a13 + 1)⟩, ?_, ⟨hm, K_65⟩, Nat.lt_succ_self _⟩
                            repeat' first | exact trivial | refine ⟨rfl, ?_⟩
                        ·
                          -- region 21 outright.go:307
                          refine sw_region [(0, 0), (1, 0), (2, 0), (3, 0), (4, 0), (5, 0), (6, 0), (7, 0), (8, 0), (9, 0), (10, 0)] rfl rfl rfl ?_
                          refine sd_vv rfl rfl rfl (vv_move rfl) ?_
                          refine sd_vv rfl rfl rfl (vv_not rfl) ?_
                          refine sd_split rfl rfl rfl (vv_move rfl) (fun c11 => ?_) (fun c11 => ?_)
                          ·
                            replace hm := cnd_t c11 hm
                            refine sd_skip rfl rfl rfl ?_
                            refine sd_skip rfl rfl rfl ?_
                            refine sd_vv rfl rfl rfl (vv_pickT rfl rfl) ?_
                            refine sd_vv rfl rfl rfl (vv_move rfl) ?_
                            refine sd_skip rfl rfl rfl ?_
                            refine sd_skip rfl rfl rfl ?_
                            refine sd_skip rfl rfl rfl ?_
                            refine sd_vv rfl rfl rfl (vv_pickT rfl rfl) ?_
                            refine sd_nil ?_
                            have K_66 : Kz [] w18 w18 := (Kz.refl _ _)
                            refine ⟨rfl, true, ?_, hm, K_66⟩
                            repeat' first | exact trivial | refine ⟨rfl, ?_⟩
                          ·
                            replace hm := cnd_f c11 hm
                            refine sd_vv rfl rfl rfl (vv_move rfl) ?_
                            refine sd_vv rfl rfl rfl (vv_not rfl) ?_
                            refine sd_vv rfl rfl rfl (vv_pickF rfl rfl) ?_
                            refine sd_split rfl rfl rfl (vv_move rfl) (fun c12 => ?_) (fun c12 => ?_)
                            ·
                              replace hm := cnd_t c12 hm
                              refine sd_skip rfl rfl rfl ?_
                              refine sd_skip rfl rfl rfl ?_
                              refine sd_skip rfl rfl rfl ?_
                              refine sd_vv rfl rfl rfl (vv_pickT rfl rfl) ?_
                              refine sd_nil ?_
                              have K_67 : Kz [] w18 w18 := (Kz.refl _ _)
                              refine ⟨rfl, true, ?_, hm, K_67⟩
                              repeat' first | exact trivial | refine ⟨rfl, ?_⟩
                            ·
                              replace hm := cnd_f c12 hm
                              refine sd_vv rfl rfl rfl (vv_move rfl) ?_
                              refine sd_vv rfl rfl rfl (vv_move rfl) ?_
                              refine sd_vv rfl rfl rfl (vv_eqlL Try.underlying4 rfl rfl) ?_
                              refine sd_vv rfl rfl rfl (vv_pickF rfl rfl) ?_
                              refine sd_nil ?_
                              have K_68 : Kz [] w18 w18 := (Kz.refl _ _)
                              refine ⟨rfl, (x16.1 == x19.1), ?_, hm, K_68⟩
                              repeat' first | exact trivial | refine ⟨rfl, ?_⟩
                      ·
                        replace hm := ite_f (of_decide_eq_false c9) hm
                        refine sw_exit ?_
                        refine then_x ?_
                        refine then_x ?_
                        refine block_x ?_
                        refine then_n ?_
                        refine sw_seq ?_
                        -- region 23 outright.go:311
                        refine sw_region [(0, 0), (1, 0)] rfl rfl rfl ?_
                        refine sd_vv rfl rfl rfl (vv_move rfl) ?_
                        refine sd_vv rfl rfl rfl (vv_assign rfl) ?_
                        refine sd_done ?_
                        refine sw_ret ?_
                        have X69 : Gr w w14 := (Gr.kz X41 Kw14)
                        have hr := Option.some.inj hm
                        subst hr
                        refine ⟨_, _, rfl, res_1 rfl (rv_tmp rfl), ?_⟩
                        exact ⟨rfl, X69⟩
                ·
                  -- region 14 outright.go:301
                  refine sw_region [(0, 0), (1, 0), (2, 0), (3, 0), (4, 0), (5, 0), (6, 0), (7, 0), (8, 0), (9, 0), (10, 0), (11, 0), (12, 0), (13, 0), (14, 0), (15, 0), (16, 0), (17, 0), (18, 0), (19, 0), (20, 0), (21, 0), (22, 0), (23, 0), (24, 0), (25, 0)] rfl rfl rfl ?_
                  refine sd_vv rfl rfl rfl (vv_move rfl) ?_
                  refine sd_vv rfl rfl rfl (vv_neq (a := x8.2) (b := 0) rfl rfl) ?_
                  refine sd_split rfl rfl rfl (vv_move rfl) (fun c13 => ?_) (fun c13 => ?_)
                  ·
                    replace hm := ite_t (of_decide_eq_true c13) hm
                    refine sd_skip rfl rfl rfl ?_
                    refine sd_skip rfl rfl rfl ?_
                    refine sd_vv rfl rfl rfl (vv_pickT rfl rfl) ?_
                    refine sd_vv rfl rfl rfl (vv_move rfl) ?_
                    refine sd_skip rfl rfl rfl ?_
                    refine sd_skip rfl rfl rfl ?_
                    refine sd_skip rfl rfl rfl ?_
                    refine sd_vv rfl rfl rfl (vv_pickT rfl rfl) ?_
                    refine sd_vv rfl rfl rfl (vv_move rfl) ?_
                    refine sd_skip rfl rfl rfl ?_
                    refine sd_skip rfl rfl rfl ?_
                    refine sd_skip rfl rfl rfl ?_
                    refine sd_vv rfl rfl rfl (vv_pickT rfl rfl) ?_
                    refine sd_vv rfl rfl rfl (vv_move rfl) ?_
                    refine sd_skip rfl rfl rfl ?_
                    refine sd_skip rfl rfl rfl ?_
                    refine sd_skip rfl rfl rfl ?_
                    refine sd_skip rfl rfl rfl ?_
                    refine sd_skip rfl rfl rfl ?_
                    refine sd_skip rfl rfl rfl ?_
                    refine sd_skip rfl rfl rfl ?_
                    refine sd_skip rfl rfl rfl ?_
                    refine sd_vv rfl rfl rfl (vv_pickT rfl rfl) ?_
                    refine sd_nil ?_
                    have K_70 : Kz [] w12 w12 := (Kz.refl _ _)
                    refine ⟨rfl, true, ?_, hm, K_70⟩
                    repeat' first | exact trivial | refine ⟨rfl, ?_⟩
                  ·
                    replace hm := ite_f (of_decide_eq_false c13) hm
                    refine sd_vv rfl rfl rfl (vv_move rfl) ?_
                    refine sd_vv rfl rfl rfl (vv_neq (a := x10.2) (b := 0) rfl rfl) ?_
                    refine sd_vv rfl rfl rfl (vv_pickF rfl rfl) ?_
                    refine sd_split rfl rfl rfl (vv_move rfl) (fun c14 => ?_) (fun c14 => ?_)
                    ·
                      replace hm := ite_t (of_decide_eq_true c14) hm
                      refine sd_skip rfl rfl rfl ?_
                      refine sd_skip rfl rfl rfl ?_
                      refine sd_skip rfl rfl rfl ?_
                      refine sd_vv rfl rfl rfl (vv_pickT rfl rfl) ?_
                      refine sd_vv rfl rfl rfl (vv_move rfl) ?_
                      refine sd_skip rfl rfl rfl ?_
                      refine sd_skip rfl rfl rfl ?_
                      refine sd_skip rfl rfl rfl ?_
                      refine sd_vv rfl rfl rfl (vv_pickT rfl rfl) ?_
                      refine sd_vv rfl rfl rfl (vv_move rfl) ?_
                      refine sd_skip rfl rfl rfl ?_
                      refine sd_skip rfl rfl rfl ?_
                      refine sd_skip rfl rfl rfl ?_
                      refine sd_skip rfl rfl rfl ?_
                      refine sd_skip rfl rfl rfl ?_
                      refine sd_skip rfl rfl rfl ?_
                      refine sd_skip rfl rfl rfl ?_
                      refine sd_skip rfl rfl rfl ?_
                      refine sd_vv rfl rfl rfl (vv_pickT rfl rfl) ?_
                      refine sd_nil ?_
                      have K_71 : Kz [] w12 w12 := (Kz.refl _ _)
                      refine ⟨rfl, true, ?_, hm, K_71⟩
                      repeat' first | exact trivial | refine ⟨rfl, ?_⟩
                    ·
                      replace hm := ite_f (of_decide_eq_false c14) hm
                      refine sd_vv rfl rfl rfl (vv_move rfl) ?_
                      have B72 := (Own.gr (Own.gr O10_r0_s Gw11) Gw12)
                      refine sd_vv rfl rfl rfl (vv_lenT (l := x8.1) (c := ic) Try.underlying61 rfl (Own.rd B72)) ?_
                      refine sd_vv rfl rfl rfl (vv_eql (a := (x8.1.length : Int)) (b := 0) rfl rfl) ?_
                      refine sd_vv rfl rfl rfl (vv_pickF rfl rfl) ?_
                      refine sd_split rfl rfl rfl (vv_move rfl) (fun c15 => ?_) (fun c15 => ?_)
                      ·
                        replace hm := ite_t (of_decide_eq_true c15) hm
                        refine sd_skip rfl rfl rfl ?_
                        refine sd_skip rfl rfl rfl ?_
                        refine sd_skip rfl rfl rfl ?_
                        refine sd_vv rfl rfl rfl (vv_pickT rfl rfl) ?_
                        refine sd_vv rfl rfl rfl (vv_move rfl) ?_
                        refine sd_skip rfl rfl rfl ?_
                        refine sd_skip rfl rfl rfl ?_
                        refine sd_skip rfl rfl rfl ?_
                        refine sd_skip rfl rfl rfl ?_
                        refine sd_skip rfl rfl rfl ?_
                        refine sd_skip rfl rfl rfl ?_
                        refine sd_skip rfl rfl rfl ?_
                        refine sd_skip rfl rfl rfl ?_
                        refine sd_vv rfl rfl rfl (vv_pickT rfl rfl) ?_
                        refine sd_nil ?_
                        have K_73 : Kz [] w12 w12 := (Kz.refl _ _)
                        refine ⟨rfl, true, ?_, hm, K_73⟩
                        repeat' first | exact trivial | refine ⟨rfl, ?_⟩
                      ·
                        replace hm := ite_f (of_decide_eq_false c15) hm
                        refine sd_vv rfl rfl rfl (vv_move rfl) ?_
                        refine sd_vv rfl rfl rfl (vv_lenT (l := x10.1) (c := ic) Try.underlying61 rfl (Own.rd O12_r0_s)) ?_
                        refine sd_vv rfl rfl rfl (vv_eql (a := (x10.1.length : Int)) (b := 0) rfl rfl) ?_
                        refine sd_vv rfl rfl rfl (vv_pickF rfl rfl) ?_
                        refine sd_split rfl rfl rfl (vv_move rfl) (fun c16 => ?_) (fun c16 => ?_)
                        ·
                          replace hm := ite_t (of_decide_eq_true c16) hm
                          refine sd_skip rfl rfl rfl ?_
                          refine sd_skip rfl rfl rfl ?_
                          refine sd_skip rfl rfl rfl ?_
                          refine sd_skip rfl rfl rfl ?_
                          refine sd_skip rfl rfl rfl ?_
                          refine sd_skip rfl rfl rfl ?_
                          refine sd_skip rfl rfl rfl ?_
                          refine sd_skip rfl rfl rfl ?_
                          refine sd_vv rfl rfl rfl (vv_pickT rfl rfl) ?_
                          refine sd_nil ?_
                          have K_74 : Kz [] w12 w12 := (Kz.refl _ _)
                          refine ⟨rfl, true, ?_, hm, K_74⟩
                          repeat' first | exact trivial | refine ⟨rfl, ?_⟩
                        ·
                          replace hm := ite_f (of_decide_eq_false c16) hm
                          refine sd_vv rfl rfl rfl (vv_move rfl) ?_
                          refine sd_vv rfl rfl rfl (vv_lenT (l := x8.1) (c := ic) Try.underlying61 rfl (Own.rd B72)) ?_
                          refine sd_vv rfl rfl rfl (vv_move rfl) ?_
                          refine sd_vv rfl rfl rfl (vv_lenT (l := x10.1) (c := ic) Try.underlying61 rfl (Own.rd O12_r0_s)) ?_
                          refine sd_vv rfl rfl rfl (vv_add (k := .i64) (a := (x8.1.length : Int)) (b := (x10.1.length : Int)) rfl rfl) ?_
                          refine sd_vv rfl rfl rfl (vv_move rfl) ?_
                          have B75 := (Own.gr (Own.gr (Own.gr (Own.gr (Own.kz B22 Kw8) Gw9) Gw10) Gw11) Gw12)
                          refine sd_vv rfl rfl rfl (vv_lenT (l := x2.1) (c := ic) Try.underlying61 rfl (Own.rd B75)) ?_
                          refine sd_vv rfl rfl rfl (vv_neq (a := w64 ((x8.1.length : Int) + (x10.1.length : Int))) (b := (x2.1.length : Int)) rfl rfl) ?_
                          refine sd_vv rfl rfl rfl (vv_pickF rfl rfl) ?_
                          refine sd_nil ?_
                          have K_76 : Kz [] w12 w12 := (Kz.refl _ _)
                          refine ⟨rfl, (decide (w64 ((x8.1.length : Int) + (x10.1.length : Int)) ≠ (x2.1.length : Int))), ?_, hm, K_76⟩
                          repeat' first | exact trivial | refine ⟨rfl, ?_⟩
            ·
              -- region 10 outright.go:296
              refine sw_region [(0, 0), (1, 0), (2, 0), (3, 0), (4, 0), (5, 0), (6, 0)] rfl rfl rfl ?_
              refine sd_vv rfl rfl rfl (vv_move rfl) ?_
              refine sd_vv rfl rfl rfl (vv_neq (a := x3.2) (b := 0) rfl rfl) ?_
              refine sd_split rfl rfl rfl (vv_move rfl) (fun c17 => ?_) (fun c17 => ?_)
              ·
                replace hm := ite_t (of_decide_eq_true c17) hm
                refine sd_skip rfl rfl rfl ?_
                refine sd_skip rfl rfl rfl ?_
                refine sd_skip rfl rfl rfl ?_
                refine sd_vv rfl rfl rfl (vv_pickT rfl rfl) ?_
                refine sd_nil ?_
                have K_77 : Kz [] w7 w7 := (Kz.refl _ _)
                refine ⟨rfl, true, ?_, hm, K_77⟩
                repeat' first | exact trivial | refine ⟨rfl, ?_⟩
              ·
                replace hm := ite_f (of_decide_eq_false c17) hm
                refine sd_vv rfl rfl rfl (vv_move rfl) ?_
                have B78 := (Own.kz (Own.kz O5_r0_s Kw6) Kw7)
                refine sd_vv rfl rfl rfl (vv_lenT (l := x3.1) (c := TSubset.cs) Try.underlying48 rfl (Own.rd B78)) ?_
                refine sd_vv rfl rfl rfl (vv_neq (a := (x3.1.length : Int)) (b := 2) rfl rfl) ?_
                refine sd_vv rfl rfl rfl (vv_pickF rfl rfl) ?_
                refine sd_nil ?_
                have K_79 : Kz [] w7 w7 := (Kz.refl _ _)
                refine ⟨rfl, (decide ((x3.1.length : Int) ≠ 2)), ?_, hm, K_79⟩
                repeat' first | exact trivial | refine ⟨rfl, ?_⟩
      ·
        -- region 6 outright.go:290
        refine sw_region [(0, 0), (1, 0), (2, 0), (3, 0), (4, 0), (5, 0), (6, 0)] rfl rfl rfl ?_
        refine sd_vv rfl rfl rfl (vv_move rfl) ?_
        refine sd_vv rfl rfl rfl (vv_neq (a := x2.2) (b := 0) rfl rfl) ?_
        refine sd_split rfl rfl rfl (vv_move rfl) (fun c18 => ?_) (fun c18 => ?_)
        ·
          replace hm := ite_t (of_decide_eq_true c18) hm
          refine sd_skip rfl rfl rfl ?_
          refine sd_skip rfl rfl rfl ?_
          refine sd_skip rfl rfl rfl ?_
          refine sd_vv rfl rfl rfl (vv_pickT rfl rfl) ?_
          refine sd_nil ?_
          have K_80 : Kz [] w6 w6 := (Kz.refl _ _)
          refine ⟨rfl, true, ?_, hm, K_80⟩
          repeat' first | exact trivial | refine ⟨rfl, ?_⟩
        ·
          replace hm := ite_f (of_decide_eq_false c18) hm
          refine sd_vv rfl rfl rfl (vv_move rfl) ?_
          have B81 := (Own.kz (Own.gr O4_r0_s Gw5) Kw6)
          refine sd_vv rfl rfl rfl (vv_lenT (l := x2.1) (c := ic) Try.underlying61 rfl (Own.rd B81)) ?_
          refine sd_vv rfl rfl rfl (vv_eql (a := (x2.1.length : Int)) (b := 0) rfl rfl) ?_
          refine sd_vv rfl rfl rfl (vv_pickF rfl rfl) ?_
          refine sd_nil ?_
          have K_82 : Kz [] w6 w6 := (Kz.refl _ _)
          refine ⟨rfl, (decide ((x2.1.length : Int) = 0)), ?_, hm, K_82⟩
          repeat' first | exact trivial | refine ⟨rfl, ?_⟩
  ·
    -- region 4 outright.go:287
    refine sw_region [(0, 0), (1, 0), (2, 0), (3, 0), (4, 0), (5, 0), (6, 0), (7, 0), (8, 0)] rfl rfl rfl ?_
    have B83 := (Bx.gr B10 Gw5)
    refine sd_vv rfl rfl rfl (vv_loadW agg_45 rfl B83 rfl) ?_
    have hb := bnd hm; clear hm; obtain ⟨x21, hx21, hm⟩ := hb
    refine sd_ev rfl rfl rfl (ev_call en_59 rfl (ref03_Valid_w p0 _ hx21 _)) ?_
    rintro _ w20 ⟨rfl, Gw20⟩
    have z84 := Gw20.size
    refine sd_vv rfl rfl rfl (vv_not rfl) ?_
    refine sd_split rfl rfl rfl (vv_move rfl) (fun c19 => ?_) (fun c19 => ?_)
    ·
      replace hm := cnd_t c19 hm
      refine sd_skip rfl rfl rfl ?_
      refine sd_skip rfl rfl rfl ?_
      refine sd_skip rfl rfl rfl ?_
      refine sd_skip rfl rfl rfl ?_
      refine sd_vv rfl rfl rfl (vv_pickT rfl rfl) ?_
      refine sd_nil ?_
      have K_85 : Kz [] w5 w20 := (Kz.gr (Kz.refl _ _) Gw20)
      refine ⟨rfl, true, ?_, hm, K_85⟩
      repeat' first | exact trivial | refine ⟨rfl, ?_⟩
    ·
      replace hm := cnd_f c19 hm
      have B86 := (Bx.gr B83 Gw20)
      refine sd_vv rfl rfl rfl (vv_loadW agg_45 rfl B86 rfl) ?_
      have B87 := (Bx.gr (Bx.gr B11 Gw5) Gw20)
      refine sd_vv rfl rfl rfl (vv_loadW agg_47 rfl B87 rfl) ?_
      have hb := bnd hm; clear hm; obtain ⟨x22, hx22, hm⟩ := hb
      refine sd_ev rfl rfl rfl (ev_call en_62 rfl (ref03_IsSubset_w p0 p1 _ hx22 _)) ?_
      rintro _ w21 ⟨rfl, Gw21⟩
      have z88 := Gw21.size
      refine sd_vv rfl rfl rfl (vv_not rfl) ?_
      refine sd_vv rfl rfl rfl (vv_pickF rfl rfl) ?_
      refine sd_nil ?_
      have K_89 : Kz [] w5 w21 := (Kz.gr (Kz.gr (Kz.refl _ _) Gw20) Gw21)
      refine ⟨rfl, (!x22), ?_, hm, K_89⟩
      repeat' first | exact trivial | refine ⟨rfl, ?_⟩
end Go.Proofs.Ytecempahccgijaa.Mx
