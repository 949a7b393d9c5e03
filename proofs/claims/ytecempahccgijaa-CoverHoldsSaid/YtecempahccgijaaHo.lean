/- Walks that follow mirrors: Ho. Printed by mx.py. -/
import Derived.Test.YtecempahccgijaaWHo
import Derived.Test.YtecempahccgijaaHoM
set_option linter.unusedVariables false
set_option linter.unusedSimpArgs false
set_option maxRecDepth 100000
namespace Go.Proofs.Ytecempahccgijaa.Mx
open Go Go.RowKit Go.Sx
theorem en_56 : En Try.prog 56 := fun _ _ => by kernel_rfl
theorem en_59 : En Try.prog 59 := fun _ _ => by kernel_rfl
theorem en_50 : En Try.prog 50 := fun _ _ => by kernel_rfl
theorem en_62 : En Try.prog 62 := fun _ _ => by kernel_rfl
theorem en_61 : En Try.prog 61 := fun _ _ => by kernel_rfl

set_option maxHeartbeats 2000000 in
theorem law03_CoverHolds_w (p0 : W2) (p1 : TScheme) (p2 : Int) (p3 : TSubset)  (r : Bool) (hm : law03_CoverHolds p0 p1 p2 p3 = some r) (w : World)   :
    Calls Try.prog 18 [kv p0, .agg (TScheme.cs p1).toArray, .int .i64 p2, .agg (TSubset.cs p3).toArray].toArray w fun e w' => ∃ v, e = .returned v ∧ (v = .bool r ∧ Gr w w') := by
  unfold law03_CoverHolds at hm
  refine calls_of_sw (R := fun v w' => v = .bool r ∧ Gr w w') 146 Try.func18 rfl rfl rfl ?_
  refine sw_seq ?_
  -- region 0 outright.go:188
  refine sw_region [(0, 0), (1, 0), (2, 0), (3, 0)] rfl rfl rfl ?_
  refine sd_ev rfl rfl rfl (ev_box (cs := kb p0) rfl rfl) ?_
  rintro _ w1 ⟨b1, rfl, hbw1, Bw1, Gw1⟩
  have z1 := Gw1.size
  have lt2 := Bw1.lt
  refine sd_ev rfl rfl rfl (ev_box (cs := TScheme.cs p1) rfl rfl) ?_
  rintro _ w2 ⟨b2, rfl, hbw2, Bw2, Gw2⟩
  have z3 := Gw2.size
  have lt4 := Bw2.lt
  refine sd_ev rfl rfl rfl (ev_box (cs := TSubset.cs p3) rfl rfl) ?_
  rintro _ w3 ⟨b3, rfl, hbw3, Bw3, Gw3⟩
  have z5 := Gw3.size
  have lt6 := Bw3.lt
  refine sd_vv rfl rfl rfl (vv_assign rfl) ?_
  refine sd_done ?_
  refine sw_seq ?_
  -- region 1 outright.go:189
  refine sw_region [(0, 0), (1, 0)] rfl rfl rfl ?_
  have hb := bnd hm; clear hm; obtain ⟨x1, hx1, hm⟩ := hb
  refine sd_ev rfl rfl rfl (ev_call en_56 rfl (law03_alive_w _ hx1 _)) ?_
  rintro _ w4 ⟨rfl, Gw4⟩
  have z7 := Gw4.size
  refine sd_vv rfl rfl rfl (vv_assign rfl) ?_
  refine sd_done ?_
  refine sw_seq ?_
  -- region 2 outright.go:190
  refine sw_region [(0, 0), (1, 0), (2, 0), (3, 0), (4, 0), (5, 0), (6, 0), (7, 0), (8, 0), (9, 0)] rfl rfl rfl ?_
  have B8 := (Bx.gr (Bx.gr (Bx.gr Bw1 Gw2) Gw3) Gw4)
  refine sd_vv rfl rfl rfl (vv_loadW agg_26 rfl B8 rfl) ?_
  have B9 := (Bx.gr (Bx.gr Bw2 Gw3) Gw4)
  refine sd_vv rfl rfl rfl (vv_loadW agg_45 rfl B9 rfl) ?_
  refine sd_vv rfl rfl rfl (vv_move rfl) ?_
  have hb := bnd hm; clear hm; obtain ⟨x2, hx2, hm⟩ := hb
  refine sd_ev rfl rfl rfl (ev_call en_40 rfl (cover_Secret_w p0 p1 p2 _ hx2 _)) ?_
  rintro _ w5 ⟨u5_r0_1, z5_r0_1, g5_r0_1, rfl, O5_r0_1, f5_r0_1, Gw5⟩
  have z10 := Gw5.size
  have lt11 := O5_r0_1.lth
  refine sd_vv rfl rfl rfl (vv_move rfl) ?_
  refine sd_vv rfl rfl rfl (vv_extract rfl rfl) ?_
  refine sd_vv rfl rfl rfl (vv_extract rfl rfl) ?_
  refine sd_ev rfl rfl rfl (ev_alloc (cs := TSecret.cs (TSecret.mk 0 [] (TPoint.mk 0#64 0#64)) (.slice none 0 0)) zv_74 rfl) ?_
  rintro _ w6 ⟨b6, rfl, hbw6, Bw6, Gw6⟩
  have z12 := Gw6.size
  have lt13 := Bw6.lt
  have B14 := (Own.gr O5_r0_1 Gw6)
  refine sd_ev rfl rfl rfl (ev_stM (cs' := TSecret.cs x2.1 u5_r0_1) (vs := TSecret.cs x2.1 u5_r0_1) (agg_74).siz rfl rfl rfl rfl (TSecret.cs_ones _ _ (Own.oneB B14)) Bw6 rfl rfl) ?_
  rintro _ w7 ⟨Bw7, Mw7⟩
  have z15 := Mw7.size
  refine sd_vv rfl rfl rfl (vv_assign rfl) ?_
  refine sd_done ?_
  refine sw_seq ?_
  have X16 : Gr w w7 := (Gr.md (Gr.trans (Gr.trans (Gr.trans (Gr.trans (Gr.trans (Gr.trans (Gr.refl w) Gw1) Gw2) Gw3) Gw4) Gw5) Gw6) Mw7)
  refine sw_joinD (β := Bool) [28, 29, 30, 31, 32, 33, 34, 35, 36, 37, 38, 39, 40, 41] (fun a3 => [(41, .bool a3)]) (fun a3 wr => (law03_CoverHolds_J1 p0 p1 p2 p3 x1 x2 a3 = some r) ∧ Kz [] w7 wr) ?_ ?_
  · clear hm; rintro a3 w8 ⟨hm, Kw8⟩
    have z17 := Kw8.size
    unfold law03_CoverHolds_J1 at hm
    refine sw_cond rfl (fun c1 => ?_) (fun c1 => ?_)
    ·
      replace hm := cnd_t c1 hm
      refine sw_seq ?_
      -- region 4 outright.go:192
      refine sw_region [(0, 0), (1, 0), (2, 0), (3, 0), (4, 0), (5, 0), (6, 0), (7, 0), (8, 0), (9, 0)] rfl rfl rfl ?_
      refine sd_vv rfl rfl rfl (vv_move rfl) ?_
      refine sd_split rfl rfl rfl (vv_move rfl) (fun c2 => ?_) (fun c2 => ?_)
      ·
        replace hm := cnd_t c2 hm
        refine sd_vv rfl rfl rfl (vv_move rfl) ?_
        refine sd_vv rfl rfl rfl (vv_eql (a := x2.2) (b := 30) rfl rfl) ?_
        refine sd_split rfl rfl rfl (vv_move rfl) (fun c3 => ?_) (fun c3 => ?_)
        ·
          replace hm := ite_t (of_decide_eq_true c3) hm
          refine sd_skip rfl rfl rfl ?_
          refine sd_skip rfl rfl rfl ?_
          refine sd_vv rfl rfl rfl (vv_pickT rfl rfl) ?_
          refine sd_vv rfl rfl rfl (vv_pickT rfl rfl) ?_
          refine sd_vv rfl rfl rfl (vv_assign rfl) ?_
          refine sd_done ?_
          refine sw_ret ?_
          refine then_r ?_
          have X18 : Gr w w8 := (Gr.kz X16 Kw8)
          have hr := Option.some.inj hm
          subst hr
          refine ⟨_, _, rfl, res_1 rfl (rv_tmp rfl), ?_⟩
          exact ⟨rfl, X18⟩
        ·
          replace hm := ite_f (of_decide_eq_false c3) hm
          refine sd_vv rfl rfl rfl (vv_move rfl) ?_
          refine sd_vv rfl rfl rfl (vv_eql (a := x2.2) (b := 2) rfl rfl) ?_
          refine sd_vv rfl rfl rfl (vv_pickF rfl rfl) ?_
          refine sd_vv rfl rfl rfl (vv_pickT rfl rfl) ?_
          refine sd_vv rfl rfl rfl (vv_assign rfl) ?_
          refine sd_done ?_
          refine sw_ret ?_
          refine then_r ?_
          have X19 : Gr w w8 := (Gr.kz X16 Kw8)
          have hr := Option.some.inj hm
          subst hr
          refine ⟨_, _, rfl, res_1 rfl (rv_tmp rfl), ?_⟩
          exact ⟨rfl, X19⟩
      ·
        replace hm := cnd_f c2 hm
        refine sd_skip rfl rfl rfl ?_
        refine sd_skip rfl rfl rfl ?_
        refine sd_skip rfl rfl rfl ?_
        refine sd_skip rfl rfl rfl ?_
        refine sd_skip rfl rfl rfl ?_
        refine sd_skip rfl rfl rfl ?_
        refine sd_vv rfl rfl rfl (vv_pickF rfl rfl) ?_
        refine sd_vv rfl rfl rfl (vv_assign rfl) ?_
        refine sd_done ?_
        refine sw_ret ?_
        refine then_r ?_
        have X20 : Gr w w8 := (Gr.kz X16 Kw8)
        have hr := Option.some.inj hm
        subst hr
        refine ⟨_, _, rfl, res_1 rfl (rv_tmp rfl), ?_⟩
        exact ⟨rfl, X20⟩
    ·
      replace hm := cnd_f c1 hm
      refine sw_skip ?_
      refine then_n ?_
      refine sw_seq ?_
      -- region 5 outright.go:194
      refine sw_region [(0, 0), (1, 0), (2, 0), (3, 0), (4, 0), (5, 0), (6, 0), (7, 0), (8, 0), (9, 0)] rfl rfl rfl ?_
      have B21 := (Bx.kz (Bx.md (Bx.gr (Bx.gr B8 Gw5) Gw6) Mw7) Kw8)
      refine sd_vv rfl rfl rfl (vv_loadW agg_26 rfl B21 rfl) ?_
      have B22 := (Bx.kz (Bx.md (Bx.gr (Bx.gr B9 Gw5) Gw6) Mw7) Kw8)
      refine sd_vv rfl rfl rfl (vv_loadW agg_45 rfl B22 rfl) ?_
      have B23 := (Bx.kz (Bx.md (Bx.gr (Bx.gr (Bx.gr Bw3 Gw4) Gw5) Gw6) Mw7) Kw8)
      refine sd_vv rfl rfl rfl (vv_loadW agg_47 rfl B23 rfl) ?_
      have hb := bnd hm; clear hm; obtain ⟨x4, hx4, hm⟩ := hb
      refine sd_ev rfl rfl rfl (ev_call en_46 rfl (cover_SubsetKey_w p0 p1 p3 _ hx4 _)) ?_
      rintro _ w9 ⟨rfl, Gw9⟩
      have z24 := Gw9.size
      refine sd_vv rfl rfl rfl (vv_move rfl) ?_
      refine sd_vv rfl rfl rfl (vv_extract rfl rfl) ?_
      refine sd_vv rfl rfl rfl (vv_extract rfl rfl) ?_
      refine sd_ev rfl rfl rfl (ev_alloc (cs := kb k0) zv_26 rfl) ?_
      rintro _ w10 ⟨b10, rfl, hbw10, Bw10, Gw10⟩
      have z25 := Gw10.size
      have lt26 := Bw10.lt
      refine sd_ev rfl rfl rfl (ev_stM (cs' := kb x4.1) (vs := kb x4.1) (agg_26).siz rfl rfl rfl rfl rfl Bw10 rfl rfl) ?_
      rintro _ w11 ⟨Bw11, Mw11⟩
      have z27 := Mw11.size
      refine sd_vv rfl rfl rfl (vv_assign rfl) ?_
      refine sd_done ?_
      refine sw_seq ?_
      -- region 6 outright.go:195
      refine sw_region [(0, 0), (1, 0), (2, 0), (3, 0), (4, 0), (5, 0), (6, 0), (7, 0), (8, 0), (9, 0)] rfl rfl rfl ?_
      have B28 := (Bx.md (Bx.gr (Bx.gr B22 Gw9) Gw10) Mw11)
      refine sd_vv rfl rfl rfl (vv_loadW agg_45 rfl B28 rfl) ?_
      have B29 := (Bx.md (Bx.gr (Bx.gr (Bx.kz Bw7 Kw8) Gw9) Gw10) Mw11)
      refine sd_vv rfl rfl rfl (vv_loadW agg_74 rfl B29 rfl) ?_
      have B30 := (Bx.md (Bx.gr (Bx.gr B23 Gw9) Gw10) Mw11)
      refine sd_vv rfl rfl rfl (vv_loadW agg_47 rfl B30 rfl) ?_
      have B31 := (Own.md (Own.gr (Own.gr (Own.kz (Own.md B14 Mw7 (tk1 ((pv_lt (A := (fun x => x ≠ b6)) lt11) : z5_r0_1 = 0 ∨ g5_r0_1 ≠ b6))) Kw8) Gw9) Gw10) Mw11 (tk1 ((pv_lt (A := (fun x => x ≠ b10)) lt11) : z5_r0_1 = 0 ∨ g5_r0_1 ≠ b10)))
      have hb := bnd hm; clear hm; obtain ⟨x5, hx5, hm⟩ := hb
      refine sd_ev rfl rfl rfl (ev_call en_48 rfl (cover_Find_w p1 x2.1 p3 _ _ _ _ _ hx5 _ (Own.rd B31))) ?_
      rintro _ w12 ⟨rfl, Gw12⟩
      have z32 := Gw12.size
      refine sd_vv rfl rfl rfl (vv_move rfl) ?_
      refine sd_vv rfl rfl rfl (vv_extract rfl rfl) ?_
      refine sd_vv rfl rfl rfl (vv_extract rfl rfl) ?_
      refine sd_ev rfl rfl rfl (ev_alloc (cs := kb k0) zv_26 rfl) ?_
      rintro _ w13 ⟨b13, rfl, hbw13, Bw13, Gw13⟩
      have z33 := Gw13.size
      have lt34 := Bw13.lt
      refine sd_ev rfl rfl rfl (ev_stM (cs' := kb x5.1) (vs := kb x5.1) (agg_26).siz rfl rfl rfl rfl rfl Bw13 rfl rfl) ?_
      rintro _ w14 ⟨Bw14, Mw14⟩
      have z35 := Mw14.size
      refine sd_vv rfl rfl rfl (vv_assign rfl) ?_
      refine sd_done ?_
      refine sw_seq ?_
      -- region 7 outright.go:196
      refine sw_region [(0, 0), (1, 0), (2, 0), (3, 0), (4, 0), (5, 0), (6, 0), (7, 0), (8, 0)] rfl rfl rfl ?_
      have B36 := (Bx.md (Bx.gr (Bx.gr B28 Gw12) Gw13) Mw14)
      refine sd_vv rfl rfl rfl (vv_loadW agg_45 rfl B36 rfl) ?_
      refine sd_vv rfl rfl rfl (vv_move rfl) ?_
      have B37 := (Bx.md (Bx.gr (Bx.gr B30 Gw12) Gw13) Mw14)
      refine sd_vv rfl rfl rfl (vv_loadW agg_47 rfl B37 rfl) ?_
      have hb := bnd hm; clear hm; obtain ⟨x6, hx6, hm⟩ := hb
      refine sd_ev rfl rfl rfl (ev_call en_50 rfl (cover_Work_w p1 p2 p3 _ hx6 _)) ?_
      rintro _ w15 ⟨rfl, Gw15⟩
      have z38 := Gw15.size
      refine sd_vv rfl rfl rfl (vv_move rfl) ?_
      refine sd_vv rfl rfl rfl (vv_extract rfl rfl) ?_
      refine sd_vv rfl rfl rfl (vv_extract rfl rfl) ?_
      refine sd_vv rfl rfl rfl (vv_assign rfl) ?_
      refine sd_vv rfl rfl rfl (vv_assign rfl) ?_
      refine sd_done ?_
      refine sw_seq ?_
      refine sw_seq ?_
      -- region 8 outright.go:197
      refine sw_region [(0, 0), (1, 0), (2, 0), (3, 0)] rfl rfl rfl ?_
      have B39 := (Bx.gr B36 Gw15)
      refine sd_vv rfl rfl rfl (vv_loadW agg_45 rfl B39 rfl) ?_
      have B40 := (Bx.gr B37 Gw15)
      refine sd_vv rfl rfl rfl (vv_loadW agg_47 rfl B40 rfl) ?_
      have hb := bnd hm; clear hm; obtain ⟨x7, hx7, hm⟩ := hb
      refine sd_ev rfl rfl rfl (ev_call en_62 rfl (ref03_IsSubset_w p1 p3 _ hx7 _)) ?_
      rintro _ w16 ⟨rfl, Gw16⟩
      have z41 := Gw16.size
      refine sd_vv rfl rfl rfl (vv_not rfl) ?_
      refine sd_done ?_
      refine sw_cond rfl (fun c4 => ?_) (fun c4 => ?_)
      ·
        replace hm := cnd_t c4 hm
        refine sw_seq ?_
        -- region 9 outright.go:198
        refine sw_region [(0, 0), (1, 0), (2, 0), (3, 0), (4, 0), (5, 0), (6, 0), (7, 0), (8, 0), (9, 0), (10, 0), (11, 0), (12, 0), (13, 0), (14, 0), (15, 0), (16, 0), (17, 0)] rfl rfl rfl ?_
        refine sd_vv rfl rfl rfl (vv_move rfl) ?_
        refine sd_split rfl rfl rfl (vv_move rfl) (fun c5 => ?_) (fun c5 => ?_)
        ·
          replace hm := cnd_t c5 hm
          refine sd_vv rfl rfl rfl (vv_move rfl) ?_
          refine sd_vv rfl rfl rfl (vv_eql (a := x2.2) (b := 0) rfl rfl) ?_
          refine sd_vv rfl rfl rfl (vv_pickT rfl rfl) ?_
          refine sd_split rfl rfl rfl (vv_move rfl) (fun c6 => ?_) (fun c6 => ?_)
          ·
            replace hm := ite_t (of_decide_eq_true c6) hm
            refine sd_vv rfl rfl rfl (vv_move rfl) ?_
            refine sd_vv rfl rfl rfl (vv_eql (a := x4.2) (b := 31) rfl rfl) ?_
            refine sd_vv rfl rfl rfl (vv_pickT rfl rfl) ?_
            refine sd_split rfl rfl rfl (vv_move rfl) (fun c7 => ?_) (fun c7 => ?_)
            ·
              replace hm := ite_t (of_decide_eq_true c7) hm
              refine sd_vv rfl rfl rfl (vv_move rfl) ?_
              refine sd_vv rfl rfl rfl (vv_eql (a := x5.2) (b := 31) rfl rfl) ?_
              refine sd_vv rfl rfl rfl (vv_pickT rfl rfl) ?_
              refine sd_split rfl rfl rfl (vv_move rfl) (fun c8 => ?_) (fun c8 => ?_)
              ·
                replace hm := ite_t (of_decide_eq_true c8) hm
                refine sd_vv rfl rfl rfl (vv_move rfl) ?_
                refine sd_vv rfl rfl rfl (vv_eql (a := x6.2) (b := 31) rfl rfl) ?_
                refine sd_vv rfl rfl rfl (vv_pickT rfl rfl) ?_
                refine sd_vv rfl rfl rfl (vv_assign rfl) ?_
                refine sd_done ?_
                refine sw_ret ?_
                refine then_r ?_
                have X42 : Gr w w16 := (Gr.trans (Gr.trans (Gr.md (Gr.trans (Gr.trans (Gr.md (Gr.trans (Gr.trans (Gr.kz X16 Kw8) Gw9) Gw10) Mw11) Gw12) Gw13) Mw14) Gw15) Gw16)
                have hr := Option.some.inj hm
                subst hr
                refine ⟨_, _, rfl, res_1 rfl (rv_tmp rfl), ?_⟩
                exact ⟨rfl, X42⟩
              ·
                replace hm := ite_f (of_decide_eq_false c8) hm
                refine sd_skip rfl rfl rfl ?_
                refine sd_skip rfl rfl rfl ?_
                refine sd_vv rfl rfl rfl (vv_pickF rfl rfl) ?_
                refine sd_vv rfl rfl rfl (vv_assign rfl) ?_
                refine sd_done ?_
                refine sw_ret ?_
                refine then_r ?_
                have X43 : Gr w w16 := (Gr.trans (Gr.trans (Gr.md (Gr.trans (Gr.trans (Gr.md (Gr.trans (Gr.trans (Gr.kz X16 Kw8) Gw9) Gw10) Mw11) Gw12) Gw13) Mw14) Gw15) Gw16)
                have hr := Option.some.inj hm
                subst hr
                refine ⟨_, _, rfl, res_1 rfl (rv_tmp rfl), ?_⟩
                exact ⟨rfl, X43⟩
            ·
              replace hm := ite_f (of_decide_eq_false c7) hm
              refine sd_skip rfl rfl rfl ?_
              refine sd_skip rfl rfl rfl ?_
              refine sd_vv rfl rfl rfl (vv_pickF rfl rfl) ?_
              refine sd_vv rfl rfl rfl (vv_move rfl) ?_
              refine sd_skip rfl rfl rfl ?_
              refine sd_skip rfl rfl rfl ?_
              refine sd_vv rfl rfl rfl (vv_pickF rfl rfl) ?_
              refine sd_vv rfl rfl rfl (vv_assign rfl) ?_
              refine sd_done ?_
              refine sw_ret ?_
              refine then_r ?_
              have X44 : Gr w w16 := (Gr.trans (Gr.trans (Gr.md (Gr.trans (Gr.trans (Gr.md (Gr.trans (Gr.trans (Gr.kz X16 Kw8) Gw9) Gw10) Mw11) Gw12) Gw13) Mw14) Gw15) Gw16)
              have hr := Option.some.inj hm
              subst hr
              refine ⟨_, _, rfl, res_1 rfl (rv_tmp rfl), ?_⟩
              exact ⟨rfl, X44⟩
          ·
            replace hm := ite_f (of_decide_eq_false c6) hm
            refine sd_skip rfl rfl rfl ?_
            refine sd_skip rfl rfl rfl ?_
            refine sd_vv rfl rfl rfl (vv_pickF rfl rfl) ?_
            refine sd_vv rfl rfl rfl (vv_move rfl) ?_
            refine sd_skip rfl rfl rfl ?_
            refine sd_skip rfl rfl rfl ?_
            refine sd_vv rfl rfl rfl (vv_pickF rfl rfl) ?_
            refine sd_vv rfl rfl rfl (vv_move rfl) ?_
            refine sd_skip rfl rfl rfl ?_
            refine sd_skip rfl rfl rfl ?_
            refine sd_vv rfl rfl rfl (vv_pickF rfl rfl) ?_
            refine sd_vv rfl rfl rfl (vv_assign rfl) ?_
            refine sd_done ?_
            refine sw_ret ?_
            refine then_r ?_
            have X45 : Gr w w16 := (Gr.trans (Gr.trans (Gr.md (Gr.trans (Gr.trans (Gr.md (Gr.trans (Gr.trans (Gr.kz X16 Kw8) Gw9) Gw10) Mw11) Gw12) Gw13) Mw14) Gw15) Gw16)
            have hr := Option.some.inj hm
            subst hr
            refine ⟨_, _, rfl, res_1 rfl (rv_tmp rfl), ?_⟩
            exact ⟨rfl, X45⟩
        ·
          replace hm := cnd_f c5 hm
          refine sd_skip rfl rfl rfl ?_
          refine sd_skip rfl rfl rfl ?_
          refine sd_vv rfl rfl rfl (vv_pickF rfl rfl) ?_
          refine sd_vv rfl rfl rfl (vv_move rfl) ?_
          refine sd_skip rfl rfl rfl ?_
          refine sd_skip rfl rfl rfl ?_
          refine sd_vv rfl rfl rfl (vv_pickF rfl rfl) ?_
          refine sd_vv rfl rfl rfl (vv_move rfl) ?_
          refine sd_skip rfl rfl rfl ?_
          refine sd_skip rfl rfl rfl ?_
          refine sd_vv rfl rfl rfl (vv_pickF rfl rfl) ?_
          refine sd_vv rfl rfl rfl (vv_move rfl) ?_
          refine sd_skip rfl rfl rfl ?_
          refine sd_skip rfl rfl rfl ?_
          refine sd_vv rfl rfl rfl (vv_pickF rfl rfl) ?_
          refine sd_vv rfl rfl rfl (vv_assign rfl) ?_
          refine sd_done ?_
          refine sw_ret ?_
          refine then_r ?_
          have X46 : Gr w w16 := (Gr.trans (Gr.trans (Gr.md (Gr.trans (Gr.trans (Gr.md (Gr.trans (Gr.trans (Gr.kz X16 Kw8) Gw9) Gw10) Mw11) Gw12) Gw13) Mw14) Gw15) Gw16)
          have hr := Option.some.inj hm
          subst hr
          refine ⟨_, _, rfl, res_1 rfl (rv_tmp rfl), ?_⟩
          exact ⟨rfl, X46⟩
      ·
        replace hm := cnd_f c4 hm
        refine sw_skip ?_
        refine then_n ?_
        refine sw_seq ?_
        -- region 10 outright.go:200
        refine sw_region [(0, 0), (1, 0), (2, 0), (3, 0), (4, 0), (5, 0), (6, 0), (7, 0), (8, 0), (9, 0)] rfl rfl rfl ?_
        have B47 := (Bx.gr B39 Gw16)
        refine sd_vv rfl rfl rfl (vv_loadW agg_45 rfl B47 rfl) ?_
        have B48 := (Bx.gr B40 Gw16)
        refine sd_vv rfl rfl rfl (vv_loadW agg_47 rfl B48 rfl) ?_
        refine sd_ev rfl rfl rfl (ev_litT [p3] TSubset.cs bsl_48_1 rfl rfl (ws_of rfl) rfl rfl rfl) ?_
        rintro vw17 w17 ⟨gw17, hbw17, Ow17, Gw17⟩
        have z49 := Gw17.size
        have lt50 := Ow17.lth
        refine sd_vv rfl rfl rfl (vv_move rfl) ?_
        have hb := bnd hm; clear hm; obtain ⟨x8, hx8, hm⟩ := hb
        refine sd_ev rfl rfl rfl (ev_call en_61 rfl (law03_member_w p1 [p3] p2 _ _ _ _ _ hx8 _ (Own.rd Ow17))) ?_
        rintro _ w18 ⟨rfl, Gw18⟩
        have z51 := Gw18.size
        refine sd_vv rfl rfl rfl (vv_move rfl) ?_
        refine sd_vv rfl rfl rfl (vv_extract rfl rfl) ?_
        refine sd_vv rfl rfl rfl (vv_extract rfl rfl) ?_
        refine sd_vv rfl rfl rfl (vv_assign rfl) ?_
        refine sd_vv rfl rfl rfl (vv_assign rfl) ?_
        refine sd_done ?_
        refine sw_seq ?_
        have X52 : Gr w w18 := (Gr.trans (Gr.trans (Gr.trans (Gr.trans (Gr.md (Gr.trans (Gr.trans (Gr.md (Gr.trans (Gr.trans (Gr.kz X16 Kw8) Gw9) Gw10) Mw11) Gw12) Gw13) Mw14) Gw15) Gw16) Gw17) Gw18)
        refine sw_joinD (β := Bool) [101, 102, 103, 104, 105, 106, 107, 108, 109, 110] (fun a9 => [(110, .bool a9)]) (fun a9 wr => (law03_CoverHolds_J2 p1 x1 x4 x5 x6 x8 a9 = some r) ∧ Kz [] w18 wr) ?_ ?_
        · clear hm; rintro a9 w19 ⟨hm, Kw19⟩
          have z53 := Kw19.size
          unfold law03_CoverHolds_J2 at hm
          refine sw_cond rfl (fun c9 => ?_) (fun c9 => ?_)
          ·
            replace hm := cnd_t c9 hm
            refine sw_seq ?_
            -- region 12 outright.go:202
            refine sw_region [(0, 0)] rfl rfl rfl ?_
            refine sd_vv rfl rfl rfl (vv_assign rfl) ?_
            refine sd_done ?_
            refine sw_ret ?_
            refine then_r ?_
            have X54 : Gr w w19 := (Gr.kz X52 Kw19)
            have hr := Option.some.inj hm
            subst hr
            refine ⟨_, _, rfl, res_1 rfl (rv_tmp rfl), ?_⟩
            exact ⟨rfl, X54⟩
          ·
            replace hm := cnd_f c9 hm
            refine sw_skip ?_
            refine then_n ?_
            refine sw_seq ?_
            refine sw_seq ?_
            -- region 13 outright.go:204
            refine sw_region [(0, 0), (1, 0)] rfl rfl rfl ?_
            refine sd_vv rfl rfl rfl (vv_move rfl) ?_
            refine sd_vv rfl rfl rfl (vv_not rfl) ?_
            refine sd_done ?_
            refine sw_cond rfl (fun c10 => ?_) (fun c10 => ?_)
            ·
              replace hm := cnd_t c10 hm
              refine sw_seq ?_
              -- region 14 outright.go:205
              refine sw_region [(0, 0), (1, 0), (2, 0), (3, 0), (4, 0), (5, 0), (6, 0), (7, 0), (8, 0), (9, 0)] rfl rfl rfl ?_
              refine sd_vv rfl rfl rfl (vv_move rfl) ?_
              refine sd_split rfl rfl rfl (vv_move rfl) (fun c11 => ?_) (fun c11 => ?_)
              ·
                replace hm := cnd_t c11 hm
                refine sd_vv rfl rfl rfl (vv_move rfl) ?_
                refine sd_vv rfl rfl rfl (vv_eql (a := x5.2) (b := 6) rfl rfl) ?_
                refine sd_vv rfl rfl rfl (vv_pickT rfl rfl) ?_
                refine sd_split rfl rfl rfl (vv_move rfl) (fun c12 => ?_) (fun c12 => ?_)
                ·
                  replace hm := ite_t (of_decide_eq_true c12) hm
                  refine sd_vv rfl rfl rfl (vv_move rfl) ?_
                  refine sd_vv rfl rfl rfl (vv_eql (a := x6.2) (b := 6) rfl rfl) ?_
                  refine sd_vv rfl rfl rfl (vv_pickT rfl rfl) ?_
                  refine sd_vv rfl rfl rfl (vv_assign rfl) ?_
                  refine sd_done ?_
                  refine sw_ret ?_
                  refine then_r ?_
                  have X55 : Gr w w19 := (Gr.kz X52 Kw19)
                  have hr := Option.some.inj hm
                  subst hr
                  refine ⟨_, _, rfl, res_1 rfl (rv_tmp rfl), ?_⟩
                  exact ⟨rfl, X55⟩
                ·
                  replace hm := ite_f (of_decide_eq_false c12) hm
                  refine sd_skip rfl rfl rfl ?_
                  refine sd_skip rfl rfl rfl ?_
                  refine sd_vv rfl rfl rfl (vv_pickF rfl rfl) ?_
                  refine sd_vv rfl rfl rfl (vv_assign rfl) ?_
                  refine sd_done ?_
                  refine sw_ret ?_
                  refine then_r ?_
                  have X56 : Gr w w19 := (Gr.kz X52 Kw19)
                  have hr := Option.some.inj hm
                  subst hr
                  refine ⟨_, _, rfl, res_1 rfl (rv_tmp rfl), ?_⟩
                  exact ⟨rfl, X56⟩
              ·
                replace hm := cnd_f c11 hm
                refine sd_skip rfl rfl rfl ?_
                refine sd_skip rfl rfl rfl ?_
                refine sd_vv rfl rfl rfl (vv_pickF rfl rfl) ?_
                refine sd_vv rfl rfl rfl (vv_move rfl) ?_
                refine sd_skip rfl rfl rfl ?_
                refine sd_skip rfl rfl rfl ?_
                refine sd_vv rfl rfl rfl (vv_pickF rfl rfl) ?_
                refine sd_vv rfl rfl rfl (vv_assign rfl) ?_
                refine sd_done ?_
                refine sw_ret ?_
                refine then_r ?_
                have X57 : Gr w w19 := (Gr.kz X52 Kw19)
                have hr := Option.some.inj hm
                subst hr
                refine ⟨_, _, rfl, res_1 rfl (rv_tmp rfl), ?_⟩
                exact ⟨rfl, X57⟩
            ·
              replace hm := cnd_f c10 hm
              refine sw_skip ?_
              refine then_n ?_
              refine sw_seq ?_
              -- region 15 outright.go:207
              refine sw_region [(0, 0), (1, 0), (2, 0), (3, 0), (4, 0), (5, 0), (6, 0), (7, 0), (8, 0), (9, 0), (10, 0), (11, 0), (12, 0), (13, 0), (14, 0), (15, 0), (16, 0), (17, 0), (18, 0), (19, 0), (20, 0), (21, 0), (22, 0), (23, 0), (24, 0)] rfl rfl rfl ?_
              refine sd_vv rfl rfl rfl (vv_move rfl) ?_
              refine sd_split rfl rfl rfl (vv_move rfl) (fun c13 => ?_) (fun c13 => ?_)
              ·
                replace hm := cnd_t c13 hm
                refine sd_vv rfl rfl rfl (vv_move rfl) ?_
                refine sd_vv rfl rfl rfl (vv_eql (a := x5.2) (b := 0) rfl rfl) ?_
                refine sd_vv rfl rfl rfl (vv_pickT rfl rfl) ?_
                refine sd_split rfl rfl rfl (vv_move rfl) (fun c14 => ?_) (fun c14 => ?_)
                ·
                  replace hm := ite_t (of_decide_eq_true c14) hm
                  have B58 := (Bx.kz (Bx.gr (Bx.gr (Bx.gr (Bx.gr Bw14 Gw15) Gw16) Gw17) Gw18) Kw19)
                  refine sd_vv rfl rfl rfl (vv_loadW agg_26 rfl B58 rfl) ?_
                  have B59 := (Bx.kz (Bx.gr (Bx.gr (Bx.gr (Bx.gr (Bx.md (Bx.gr (Bx.gr Bw11 Gw12) Gw13) Mw14) Gw15) Gw16) Gw17) Gw18) Kw19)
                  refine sd_vv rfl rfl rfl (vv_loadW agg_26 rfl B59 rfl) ?_
                  refine sd_vv rfl rfl rfl (vv_eqlS (cf := kb) (a := x5.1) (b := x4.1) eqt_26 rfl rfl rfl rfl (fun h => kb_inj h)) ?_
                  refine sd_vv rfl rfl rfl (vv_pickT rfl rfl) ?_
                  refine sd_split rfl rfl rfl (vv_move rfl) (fun c15 => ?_) (fun c15 => ?_)
                  ·
                    replace hm := ite_t (of_decide_eq_true c15) hm
                    refine sd_vv rfl rfl rfl (vv_move rfl) ?_
                    refine sd_vv rfl rfl rfl (vv_eql (a := x6.2) (b := 0) rfl rfl) ?_
                    refine sd_vv rfl rfl rfl (vv_pickT rfl rfl) ?_
                    refine sd_split rfl rfl rfl (vv_move rfl) (fun c16 => ?_) (fun c16 => ?_)
                    ·
                      replace hm := ite_t (of_decide_eq_true c16) hm
                      refine sd_vv rfl rfl rfl (vv_move rfl) ?_
                      refine sd_vv rfl rfl rfl (vv_geq (a := x6.1) (b := 0) rfl rfl) ?_
                      refine sd_vv rfl rfl rfl (vv_pickT rfl rfl) ?_
                      refine sd_split rfl rfl rfl (vv_move rfl) (fun c17 => ?_) (fun c17 => ?_)
                      ·
                        replace hm := ite_t (of_decide_eq_true c17) hm
                        refine sd_vv rfl rfl rfl (vv_move rfl) ?_
                        refine sd_vv rfl rfl rfl (vv_fieldAddr fa_45_1 rfl) ?_
                        have B60 := (Bx.kz (Bx.gr (Bx.gr B47 Gw17) Gw18) Kw19)
                        refine sd_vv rfl rfl rfl (vv_load1 (v := .int .i64 p1.Depth) one_3 rfl B60 rfl) ?_
                        refine sd_vv rfl rfl rfl (vv_leq (a := x6.1) (b := p1.Depth) rfl rfl) ?_
                        refine sd_vv rfl rfl rfl (vv_pickT rfl rfl) ?_
                        refine sd_vv rfl rfl rfl (vv_assign rfl) ?_
                        refine sd_done ?_
                        refine sw_ret ?_
                        have X61 : Gr w w19 := (Gr.kz X52 Kw19)
                        have hr := Option.some.inj hm
                        subst hr
                        refine ⟨_, _, rfl, res_1 rfl (rv_tmp rfl), ?_⟩
                        exact ⟨rfl, X61⟩
                      ·
                        replace hm := ite_f (of_decide_eq_false c17) hm
                        refine sd_skip rfl rfl rfl ?_
                        refine sd_skip rfl rfl rfl ?_
                        refine sd_skip rfl rfl rfl ?_
                        refine sd_skip rfl rfl rfl ?_
                        refine sd_vv rfl rfl rfl (vv_pickF rfl rfl) ?_
                        refine sd_vv rfl rfl rfl (vv_assign rfl) ?_
                        refine sd_done ?_
                        refine sw_ret ?_
                        have X62 : Gr w w19 := (Gr.kz X52 Kw19)
                        have hr := Option.some.inj hm
                        subst hr
                        refine ⟨_, _, rfl, res_1 rfl (rv_tmp rfl), ?_⟩
                        exact ⟨rfl, X62⟩
                    ·
                      replace hm := ite_f (of_decide_eq_false c16) hm
                      refine sd_skip rfl rfl rfl ?_
                      refine sd_skip rfl rfl rfl ?_
                      refine sd_vv rfl rfl rfl (vv_pickF rfl rfl) ?_
                      refine sd_vv rfl rfl rfl (vv_move rfl) ?_
                      refine sd_skip rfl rfl rfl ?_
                      refine sd_skip rfl rfl rfl ?_
                      refine sd_skip rfl rfl rfl ?_
                      refine sd_skip rfl rfl rfl ?_
                      refine sd_vv rfl rfl rfl (vv_pickF rfl rfl) ?_
                      refine sd_vv rfl rfl rfl (vv_assign rfl) ?_
                      refine sd_done ?_
                      refine sw_ret ?_
                      have X63 : Gr w w19 := (Gr.kz X52 Kw19)
                      have hr := Option.some.inj hm
                      subst hr
                      refine ⟨_, _, rfl, res_1 rfl (rv_tmp rfl), ?_⟩
                      exact ⟨rfl, X63⟩
                  ·
                    replace hm := ite_f (of_decide_eq_false c15) hm
                    refine sd_skip rfl rfl rfl ?_
                    refine sd_skip rfl rfl rfl ?_
                    refine sd_vv rfl rfl rfl (vv_pickF rfl rfl) ?_
                    refine sd_vv rfl rfl rfl (vv_move rfl) ?_
                    refine sd_skip rfl rfl rfl ?_
                    refine sd_skip rfl rfl rfl ?_
                    refine sd_vv rfl rfl rfl (vv_pickF rfl rfl) ?_
                    refine sd_vv rfl rfl rfl (vv_move rfl) ?_
                    refine sd_skip rfl rfl rfl ?_
                    refine sd_skip rfl rfl rfl ?_
                    refine sd_skip rfl rfl rfl ?_
                    refine sd_skip rfl rfl rfl ?_
                    refine sd_vv rfl rfl rfl (vv_pickF rfl rfl) ?_
                    refine sd_vv rfl rfl rfl (vv_assign rfl) ?_
                    refine sd_done ?_
                    refine sw_ret ?_
                    have X64 : Gr w w19 := (Gr.kz X52 Kw19)
                    have hr := Option.some.inj hm
                    subst hr
                    refine ⟨_, _, rfl, res_1 rfl (rv_tmp rfl), ?_⟩
                    exact ⟨rfl, X64⟩
                ·
                  replace hm := ite_f (of_decide_eq_false c14) hm
                  refine sd_skip rfl rfl rfl ?_
                  refine sd_skip rfl rfl rfl ?_
                  refine sd_skip rfl rfl rfl ?_
                  refine sd_vv rfl rfl rfl (vv_pickF rfl rfl) ?_
                  refine sd_vv rfl rfl rfl (vv_move rfl) ?_
                  refine sd_skip rfl rfl rfl ?_
                  refine sd_skip rfl rfl rfl ?_
                  refine sd_vv rfl rfl rfl (vv_pickF rfl rfl) ?_
                  refine sd_vv rfl rfl rfl (vv_move rfl) ?_
                  refine sd_skip rfl rfl rfl ?_
                  refine sd_skip rfl rfl rfl ?_
                  refine sd_vv rfl rfl rfl (vv_pickF rfl rfl) ?_
                  refine sd_vv rfl rfl rfl (vv_move rfl) ?_
                  refine sd_skip rfl rfl rfl ?_
                  refine sd_skip rfl rfl rfl ?_
                  refine sd_skip rfl rfl rfl ?_
                  refine sd_skip rfl rfl rfl ?_
                  refine sd_vv rfl rfl rfl (vv_pickF rfl rfl) ?_
                  refine sd_vv rfl rfl rfl (vv_assign rfl) ?_
                  refine sd_done ?_
                  refine sw_ret ?_
                  have X65 : Gr w w19 := (Gr.kz X52 Kw19)
                  have hr := Option.some.inj hm
                  subst hr
                  refine ⟨_, _, rfl, res_1 rfl (rv_tmp rfl), ?_⟩
                  exact ⟨rfl, X65⟩
              ·
                replace hm := cnd_f c13 hm
                refine sd_skip rfl rfl rfl ?_
                refine sd_skip rfl rfl rfl ?_
                refine sd_vv rfl rfl rfl (vv_pickF rfl rfl) ?_
                refine sd_vv rfl rfl rfl (vv_move rfl) ?_
                refine sd_skip rfl rfl rfl ?_
                refine sd_skip rfl rfl rfl ?_
                refine sd_skip rfl rfl rfl ?_
                refine sd_vv rfl rfl rfl (vv_pickF rfl rfl) ?_
                refine sd_vv rfl rfl rfl (vv_move rfl) ?_
                refine sd_skip rfl rfl rfl ?_
                refine sd_skip rfl rfl rfl ?_
                refine sd_vv rfl rfl rfl (vv_pickF rfl rfl) ?_
                refine sd_vv rfl rfl rfl (vv_move rfl) ?_
                refine sd_skip rfl rfl rfl ?_
                refine sd_skip rfl rfl rfl ?_
                refine sd_vv rfl rfl rfl (vv_pickF rfl rfl) ?_
                refine sd_vv rfl rfl rfl (vv_move rfl) ?_
                refine sd_skip rfl rfl rfl ?_
                refine sd_skip rfl rfl rfl ?_
                refine sd_skip rfl rfl rfl ?_
                refine sd_skip rfl rfl rfl ?_
                refine sd_vv rfl rfl rfl (vv_pickF rfl rfl) ?_
                refine sd_vv rfl rfl rfl (vv_assign rfl) ?_
                refine sd_done ?_
                refine sw_ret ?_
                have X66 : Gr w w19 := (Gr.kz X52 Kw19)
                have hr := Option.some.inj hm
                subst hr
                refine ⟨_, _, rfl, res_1 rfl (rv_tmp rfl), ?_⟩
                exact ⟨rfl, X66⟩
        ·
          -- region 11 outright.go:201
          refine sw_region [(0, 0), (1, 0), (2, 0), (3, 0), (4, 0), (5, 0), (6, 0), (7, 0), (8, 0), (9, 0)] rfl rfl rfl ?_
          refine sd_vv rfl rfl rfl (vv_move rfl) ?_
          refine sd_vv rfl rfl rfl (vv_neq (a := x2.2) (b := 0) rfl rfl) ?_
          refine sd_split rfl rfl rfl (vv_move rfl) (fun c18 => ?_) (fun c18 => ?_)
          ·
            replace hm := ite_t (of_decide_eq_true c18) hm
            refine sd_skip rfl rfl rfl ?_
            refine sd_skip rfl rfl rfl ?_
            refine sd_vv rfl rfl rfl (vv_pickT rfl rfl) ?_
            refine sd_vv rfl rfl rfl (vv_move rfl) ?_
            refine sd_skip rfl rfl rfl ?_
            refine sd_skip rfl rfl rfl ?_
            refine sd_vv rfl rfl rfl (vv_pickT rfl rfl) ?_
            refine sd_nil ?_
            have K_67 : Kz [] w18 w18 := (Kz.refl _ _)
            refine ⟨rfl, true, ?_, hm, K_67⟩
            repeat' first | exact trivial | refine ⟨rfl, ?_⟩
          ·
            replace hm := ite_f (of_decide_eq_false c18) hm
            refine sd_vv rfl rfl rfl (vv_move rfl) ?_
            refine sd_vv rfl rfl rfl (vv_neq (a := x4.2) (b := 0) rfl rfl) ?_
            refine sd_vv rfl rfl rfl (vv_pickF rfl rfl) ?_
            refine sd_split rfl rfl rfl (vv_move rfl) (fun c19 => ?_) (fun c19 => ?_)
            ·
              replace hm := ite_t (of_decide_eq_true c19) hm
              refine sd_skip rfl rfl rfl ?_
              refine sd_skip rfl rfl rfl ?_
              refine sd_vv rfl rfl rfl (vv_pickT rfl rfl) ?_
              refine sd_nil ?_
              have K_68 : Kz [] w18 w18 := (Kz.refl _ _)
              refine ⟨rfl, true, ?_, hm, K_68⟩
              repeat' first | exact trivial | refine ⟨rfl, ?_⟩
            ·
              replace hm := ite_f (of_decide_eq_false c19) hm
              refine sd_vv rfl rfl rfl (vv_move rfl) ?_
              refine sd_vv rfl rfl rfl (vv_not rfl) ?_
              refine sd_vv rfl rfl rfl (vv_pickF rfl rfl) ?_
              refine sd_nil ?_
              have K_69 : Kz [] w18 w18 := (Kz.refl _ _)
              refine ⟨rfl, (!x8.2), ?_, hm, K_69⟩
              repeat' first | exact trivial | refine ⟨rfl, ?_⟩
  ·
    -- region 3 outright.go:191
    refine sw_region [(0, 0), (1, 0), (2, 0), (3, 0), (4, 0), (5, 0), (6, 0), (7, 0), (8, 0), (9, 0), (10, 0), (11, 0), (12, 0), (13, 0)] rfl rfl rfl ?_
    have B70 := (Bx.md (Bx.gr (Bx.gr B9 Gw5) Gw6) Mw7)
    refine sd_vv rfl rfl rfl (vv_loadW agg_45 rfl B70 rfl) ?_
    have hb := bnd hm; clear hm; obtain ⟨x10, hx10, hm⟩ := hb
    refine sd_ev rfl rfl rfl (ev_call en_59 rfl (ref03_Valid_w p1 _ hx10 _)) ?_
    rintro _ w20 ⟨rfl, Gw20⟩
    have z71 := Gw20.size
    refine sd_vv rfl rfl rfl (vv_not rfl) ?_
    refine sd_split rfl rfl rfl (vv_move rfl) (fun c20 => ?_) (fun c20 => ?_)
    ·
      replace hm := cnd_t c20 hm
      refine sd_skip rfl rfl rfl ?_
      refine sd_skip rfl rfl rfl ?_
      refine sd_vv rfl rfl rfl (vv_pickT rfl rfl) ?_
      refine sd_vv rfl rfl rfl (vv_move rfl) ?_
      refine sd_skip rfl rfl rfl ?_
      refine sd_skip rfl rfl rfl ?_
      refine sd_skip rfl rfl rfl ?_
      refine sd_skip rfl rfl rfl ?_
      refine sd_skip rfl rfl rfl ?_
      refine sd_vv rfl rfl rfl (vv_pickT rfl rfl) ?_
      refine sd_nil ?_
      have K_72 : Kz [] w7 w20 := (Kz.gr (Kz.refl _ _) Gw20)
      refine ⟨rfl, true, ?_, hm, K_72⟩
      repeat' first | exact trivial | refine ⟨rfl, ?_⟩
    ·
      replace hm := cnd_f c20 hm
      refine sd_vv rfl rfl rfl (vv_move rfl) ?_
      refine sd_vv rfl rfl rfl (vv_lss (a := p2) (b := 0) rfl rfl) ?_
      refine sd_vv rfl rfl rfl (vv_pickF rfl rfl) ?_
      refine sd_split rfl rfl rfl (vv_move rfl) (fun c21 => ?_) (fun c21 => ?_)
      ·
        replace hm := ite_t (of_decide_eq_true c21) hm
        refine sd_skip rfl rfl rfl ?_
        refine sd_skip rfl rfl rfl ?_
        refine sd_skip rfl rfl rfl ?_
        refine sd_skip rfl rfl rfl ?_
        refine sd_skip rfl rfl rfl ?_
        refine sd_vv rfl rfl rfl (vv_pickT rfl rfl) ?_
        refine sd_nil ?_
        have K_73 : Kz [] w7 w20 := (Kz.gr (Kz.refl _ _) Gw20)
        refine ⟨rfl, true, ?_, hm, K_73⟩
        repeat' first | exact trivial | refine ⟨rfl, ?_⟩
      ·
        replace hm := ite_f (of_decide_eq_false c21) hm
        refine sd_vv rfl rfl rfl (vv_move rfl) ?_
        refine sd_vv rfl rfl rfl (vv_fieldAddr fa_45_1 rfl) ?_
        have B74 := (Bx.gr B70 Gw20)
        refine sd_vv rfl rfl rfl (vv_load1 (v := .int .i64 p1.Depth) one_3 rfl B74 rfl) ?_
        have hb := bnd hm; clear hm; obtain ⟨n11, hn11, hm⟩ := hb
        refine sd_vv rfl rfl rfl (vv_shlI (a := 1) (b := p1.Depth) rfl rfl hn11) ?_
        refine sd_vv rfl rfl rfl (vv_geq (a := p2) (b := shlI 1 n11) rfl rfl) ?_
        refine sd_vv rfl rfl rfl (vv_pickF rfl rfl) ?_
        refine sd_nil ?_
        have K_75 : Kz [] w7 w20 := (Kz.gr (Kz.refl _ _) Gw20)
        refine ⟨rfl, (decide (shlI 1 n11 ≤ p2)), ?_, hm, K_75⟩
        repeat' first | exact trivial | refine ⟨rfl, ?_⟩
end Go.Proofs.Ytecempahccgijaa.Mx
