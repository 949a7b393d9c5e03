/- Walks that follow mirrors: Qi. Printed by mx.py. -/
import Derived.Test.YtkdghilkigojgaaXl
import Derived.Test.YtkdghilkigojgaaQiM
set_option linter.unusedVariables false
set_option linter.unusedSimpArgs false
set_option maxRecDepth 100000
namespace Go.Proofs.Ytkdghilkigojgaa.Mx
open Go Go.RowKit Go.Sx
theorem en_49 : En Try.prog 49 := fun _ _ => by kernel_rfl
theorem en_60 : En Try.prog 60 := fun _ _ => by kernel_rfl

set_option maxHeartbeats 2000000 in
theorem law04_PolyLess_w (p0 : TPunctured) (p1 : Int) (p2 : Int) (vp0_1 : Value) (zp0_1 gp0_1 op0_1 : Nat) (r : Bool) (hm : law04_PolyLess p0 p1 p2 = some r) (w : World) (hp0_1 : Rd w zp0_1 gp0_1 op0_1 18 vp0_1 (p0.Labels.map TLabel.cs))  :
    Calls Try.prog 14 [.agg (TPunctured.cs p0 vp0_1).toArray, .int .i64 p1, .int .i64 p2].toArray w fun e w' => ∃ v, e = .returned v ∧ (v = .bool r ∧ Gr w w') := by
  have lt1 := hp0_1.lth
  unfold law04_PolyLess at hm
  refine calls_of_sw (R := fun v w' => v = .bool r ∧ Gr w w') 93 Try.func14 rfl rfl rfl ?_
  refine sw_seq ?_
  -- region 0 outright.go:333
  refine sw_region [(0, 0), (1, 0)] rfl rfl rfl ?_
  refine sd_ev rfl rfl rfl (ev_box (cs := TPunctured.cs p0 vp0_1) rfl rfl) ?_
  rintro _ w1 ⟨b1, rfl, hbw1, Bw1, Gw1⟩
  have z2 := Gw1.size
  have lt3 := Bw1.lt
  refine sd_vv rfl rfl rfl (vv_assign rfl) ?_
  refine sd_done ?_
  refine sw_seq ?_
  -- region 1 outright.go:334
  refine sw_region [(0, 0), (1, 0)] rfl rfl rfl ?_
  have hb := bnd hm; clear hm; obtain ⟨x1, hx1, hm⟩ := hb
  refine sd_ev rfl rfl rfl (ev_call en_49 rfl (law04_alive_w _ hx1 _)) ?_
  rintro _ w2 ⟨rfl, Gw2⟩
  have z4 := Gw2.size
  refine sd_vv rfl rfl rfl (vv_assign rfl) ?_
  refine sd_done ?_
  refine sw_seq ?_
  -- region 2 outright.go:335
  refine sw_region [(0, 0), (1, 0), (2, 0), (3, 0), (4, 0), (5, 0), (6, 0), (7, 0), (8, 0)] rfl rfl rfl ?_
  have B5 := (Bx.gr Bw1 Gw2)
  refine sd_vv rfl rfl rfl (vv_loadW agg_76 rfl B5 rfl) ?_
  refine sd_vv rfl rfl rfl (vv_move rfl) ?_
  have B6 := (Rd.gr (Rd.gr hp0_1 Gw1) Gw2)
  have hb := bnd hm; clear hm; obtain ⟨x2, hx2, hm⟩ := hb
  refine sd_ev rfl rfl rfl (ev_call en_44 rfl (poly_Puncture_w p0 p1 _ _ _ _ _ hx2 _ B6)) ?_
  rintro _ w3 ⟨u3_r0_1, z3_r0_1, g3_r0_1, rfl, O3_r0_1, f3_r0_1, Gw3⟩
  have z7 := Gw3.size
  have lt8 := O3_r0_1.lth
  refine sd_vv rfl rfl rfl (vv_move rfl) ?_
  refine sd_vv rfl rfl rfl (vv_extract rfl rfl) ?_
  refine sd_vv rfl rfl rfl (vv_extract rfl rfl) ?_
  refine sd_ev rfl rfl rfl (ev_alloc (cs := TPunctured.cs (TPunctured.mk 0 []) (.slice none 0 0)) zv_76 rfl) ?_
  rintro _ w4 ⟨b4, rfl, hbw4, Bw4, Gw4⟩
  have z9 := Gw4.size
  have lt10 := Bw4.lt
  have B11 := (Own.gr O3_r0_1 Gw4)
  refine sd_ev rfl rfl rfl (ev_stM (cs' := TPunctured.cs x2.1 u3_r0_1) (vs := TPunctured.cs x2.1 u3_r0_1) (agg_76).siz rfl rfl rfl rfl (TPunctured.cs_ones _ _ (Own.oneB B11)) Bw4 rfl rfl) ?_
  rintro _ w5 ⟨Bw5, Mw5⟩
  have z12 := Mw5.size
  refine sd_vv rfl rfl rfl (vv_assign rfl) ?_
  refine sd_done ?_
  refine sw_seq ?_
  have X13 : Gr w w5 := (Gr.md (Gr.trans (Gr.trans (Gr.trans (Gr.trans (Gr.refl w) Gw1) Gw2) Gw3) Gw4) Mw5)
  refine sw_joinD (β := Bool) [23, 24, 25, 26, 27, 28, 29, 30, 31, 32, 33, 34, 35, 36] (fun a3 => [(36, .bool a3)]) (fun a3 wr => (law04_PolyLess_J1 p0 p1 p2 x1 x2 a3 = some r) ∧ Kz [] w5 wr) ?_ ?_
  · clear hm; rintro a3 w6 ⟨hm, Kw6⟩
    have z14 := Kw6.size
    unfold law04_PolyLess_J1 at hm
    refine sw_cond rfl (fun c1 => ?_) (fun c1 => ?_)
    ·
      replace hm := cnd_t c1 hm
      refine sw_seq ?_
      -- region 4 outright.go:337
      refine sw_region [(0, 0), (1, 0), (2, 0), (3, 0), (4, 0), (5, 0), (6, 0), (7, 0), (8, 0), (9, 0)] rfl rfl rfl ?_
      refine sd_vv rfl rfl rfl (vv_move rfl) ?_
      refine sd_split rfl rfl rfl (vv_move rfl) (fun c2 => ?_) (fun c2 => ?_)
      ·
        replace hm := cnd_t c2 hm
        refine sd_vv rfl rfl rfl (vv_move rfl) ?_
        refine sd_vv rfl rfl rfl (vv_eql (a := x2.2) (b := 8) rfl rfl) ?_
        refine sd_split rfl rfl rfl (vv_move rfl) (fun c3 => ?_) (fun c3 => ?_)
        ·
          replace hm := ite_t (of_decide_eq_true c3) hm
          refine sd_skip rfl rfl rfl ?_
          refine sd_skip rfl rfl rfl ?_
          refine sd_vv rfl rfl rfl (vv_pickT rfl rfl) ?_
          refine sd_vv rfl rfl rfl (vv_pickT rfl rfl) ?_
          refine sd_vv rfl rfl rfl (vv_assign rfl) ?_
          refine sd_done ?_
          refine sw_ret ?_
          refine then_r ?_
          have X15 : Gr w w6 := (Gr.kz X13 Kw6)
          have hr := Option.some.inj hm
          subst hr
          refine ⟨_, _, rfl, res_1 rfl (rv_tmp rfl), ?_⟩
          exact ⟨rfl, X15⟩
        ·
          replace hm := ite_f (of_decide_eq_false c3) hm
          refine sd_vv rfl rfl rfl (vv_move rfl) ?_
          refine sd_vv rfl rfl rfl (vv_eql (a := x2.2) (b := 2) rfl rfl) ?_
          refine sd_vv rfl rfl rfl (vv_pickF rfl rfl) ?_
          refine sd_vv rfl rfl rfl (vv_pickT rfl rfl) ?_
          refine sd_vv rfl rfl rfl (vv_assign rfl) ?_
          refine sd_done ?_
          refine sw_ret ?_
          refine then_r ?_
          have X16 : Gr w w6 := (Gr.kz X13 Kw6)
          have hr := Option.some.inj hm
          subst hr
          refine ⟨_, _, rfl, res_1 rfl (rv_tmp rfl), ?_⟩
          exact ⟨rfl, X16⟩
      ·
        replace hm := cnd_f c2 hm
        refine sd_skip rfl rfl rfl ?_
        refine sd_skip rfl rfl rfl ?_
        refine sd_skip rfl rfl rfl ?_
        refine sd_skip rfl rfl rfl ?_
        refine sd_skip rfl rfl rfl ?_
        refine sd_skip rfl rfl rfl ?_
        refine sd_vv rfl rfl rfl (vv_pickF rfl rfl) ?_
        refine sd_vv rfl rfl rfl (vv_assign rfl) ?_
        refine sd_done ?_
        refine sw_ret ?_
        refine then_r ?_
        have X17 : Gr w w6 := (Gr.kz X13 Kw6)
        have hr := Option.some.inj hm
        subst hr
        refine ⟨_, _, rfl, res_1 rfl (rv_tmp rfl), ?_⟩
        exact ⟨rfl, X17⟩
    ·
      replace hm := cnd_f c1 hm
      refine sw_skip ?_
      refine then_n ?_
      refine sw_seq ?_
      -- region 5 outright.go:339
      refine sw_region [(0, 0), (1, 0), (2, 0), (3, 0), (4, 0), (5, 0), (6, 0), (7, 0), (8, 0)] rfl rfl rfl ?_
      have B18 := (Bx.kz Bw5 Kw6)
      refine sd_vv rfl rfl rfl (vv_loadW agg_76 rfl B18 rfl) ?_
      refine sd_vv rfl rfl rfl (vv_move rfl) ?_
      have B19 := (Own.kz (Own.md B11 Mw5 (tk1 ((pv_lt (A := (fun x => x ≠ b4)) lt8) : z3_r0_1 = 0 ∨ g3_r0_1 ≠ b4))) Kw6)
      have hb := bnd hm; clear hm; obtain ⟨x4, hx4, hm⟩ := hb
      refine sd_ev rfl rfl rfl (ev_call en_46 rfl (poly_Evaluate_w x2.1 p1 _ _ _ _ _ hx4 _ (Own.rd B19))) ?_
      rintro _ w7 ⟨rfl, Gw7⟩
      have z20 := Gw7.size
      refine sd_vv rfl rfl rfl (vv_move rfl) ?_
      refine sd_vv rfl rfl rfl (vv_extract rfl rfl) ?_
      refine sd_vv rfl rfl rfl (vv_extract rfl rfl) ?_
      refine sd_ev rfl rfl rfl (ev_alloc (cs := kb k0) zv_23 rfl) ?_
      rintro _ w8 ⟨b8, rfl, hbw8, Bw8, Gw8⟩
      have z21 := Gw8.size
      have lt22 := Bw8.lt
      refine sd_ev rfl rfl rfl (ev_stM (cs' := kb x4.1) (vs := kb x4.1) (agg_23).siz rfl rfl rfl rfl rfl Bw8 rfl rfl) ?_
      rintro _ w9 ⟨Bw9, Mw9⟩
      have z23 := Mw9.size
      refine sd_vv rfl rfl rfl (vv_assign rfl) ?_
      refine sd_done ?_
      refine sw_seq ?_
      -- region 6 outright.go:340
      refine sw_region [(0, 0), (1, 0), (2, 0), (3, 0), (4, 0), (5, 0), (6, 0), (7, 0), (8, 0)] rfl rfl rfl ?_
      have B24 := (Bx.md (Bx.gr (Bx.gr (Bx.kz (Bx.md (Bx.gr (Bx.gr B5 Gw3) Gw4) Mw5) Kw6) Gw7) Gw8) Mw9)
      refine sd_vv rfl rfl rfl (vv_loadW agg_76 rfl B24 rfl) ?_
      refine sd_vv rfl rfl rfl (vv_move rfl) ?_
      have B25 := (Rd.md (Rd.gr (Rd.gr (Rd.kz (Rd.md (Rd.gr (Rd.gr B6 Gw3) Gw4) Mw5 (tk1 ((pv_lt (A := (fun x => x ≠ b4)) lt1) : zp0_1 = 0 ∨ gp0_1 ≠ b4))) Kw6) Gw7) Gw8) Mw9 (tk1 ((pv_lt (A := (fun x => x ≠ b8)) lt1) : zp0_1 = 0 ∨ gp0_1 ≠ b8)))
      have hb := bnd hm; clear hm; obtain ⟨x5, hx5, hm⟩ := hb
      refine sd_ev rfl rfl rfl (ev_call en_46 rfl (poly_Evaluate_w p0 p2 _ _ _ _ _ hx5 _ B25)) ?_
      rintro _ w10 ⟨rfl, Gw10⟩
      have z26 := Gw10.size
      refine sd_vv rfl rfl rfl (vv_move rfl) ?_
      refine sd_vv rfl rfl rfl (vv_extract rfl rfl) ?_
      refine sd_vv rfl rfl rfl (vv_extract rfl rfl) ?_
      refine sd_ev rfl rfl rfl (ev_alloc (cs := kb k0) zv_23 rfl) ?_
      rintro _ w11 ⟨b11, rfl, hbw11, Bw11, Gw11⟩
      have z27 := Gw11.size
      have lt28 := Bw11.lt
      refine sd_ev rfl rfl rfl (ev_stM (cs' := kb x5.1) (vs := kb x5.1) (agg_23).siz rfl rfl rfl rfl rfl Bw11 rfl rfl) ?_
      rintro _ w12 ⟨Bw12, Mw12⟩
      have z29 := Mw12.size
      refine sd_vv rfl rfl rfl (vv_assign rfl) ?_
      refine sd_done ?_
      refine sw_seq ?_
      -- region 7 outright.go:341
      refine sw_region [(0, 0), (1, 0), (2, 0), (3, 0), (4, 0), (5, 0), (6, 0), (7, 0), (8, 0)] rfl rfl rfl ?_
      have B30 := (Bx.md (Bx.gr (Bx.gr (Bx.md (Bx.gr (Bx.gr B18 Gw7) Gw8) Mw9) Gw10) Gw11) Mw12)
      refine sd_vv rfl rfl rfl (vv_loadW agg_76 rfl B30 rfl) ?_
      refine sd_vv rfl rfl rfl (vv_move rfl) ?_
      have B31 := (Own.md (Own.gr (Own.gr (Own.md (Own.gr (Own.gr B19 Gw7) Gw8) Mw9 (tk1 ((pv_lt (A := (fun x => x ≠ b8)) lt8) : z3_r0_1 = 0 ∨ g3_r0_1 ≠ b8))) Gw10) Gw11) Mw12 (tk1 ((pv_lt (A := (fun x => x ≠ b11)) lt8) : z3_r0_1 = 0 ∨ g3_r0_1 ≠ b11)))
      have hb := bnd hm; clear hm; obtain ⟨x6, hx6, hm⟩ := hb
      refine sd_ev rfl rfl rfl (ev_call en_46 rfl (poly_Evaluate_w x2.1 p2 _ _ _ _ _ hx6 _ (Own.rd B31))) ?_
      rintro _ w13 ⟨rfl, Gw13⟩
      have z32 := Gw13.size
      refine sd_vv rfl rfl rfl (vv_move rfl) ?_
      refine sd_vv rfl rfl rfl (vv_extract rfl rfl) ?_
      refine sd_vv rfl rfl rfl (vv_extract rfl rfl) ?_
      refine sd_ev rfl rfl rfl (ev_alloc (cs := kb k0) zv_23 rfl) ?_
      rintro _ w14 ⟨b14, rfl, hbw14, Bw14, Gw14⟩
      have z33 := Gw14.size
      have lt34 := Bw14.lt
      refine sd_ev rfl rfl rfl (ev_stM (cs' := kb x6.1) (vs := kb x6.1) (agg_23).siz rfl rfl rfl rfl rfl Bw14 rfl rfl) ?_
      rintro _ w15 ⟨Bw15, Mw15⟩
      have z35 := Mw15.size
      refine sd_vv rfl rfl rfl (vv_assign rfl) ?_
      refine sd_done ?_
      refine sw_seq ?_
      -- region 8 outright.go:342
      refine sw_region [(0, 0), (1, 0), (2, 0), (3, 0), (4, 0), (5, 0), (6, 0), (7, 0), (8, 0), (9, 0), (10, 0), (11, 0), (12, 0), (13, 0), (14, 0), (15, 0), (16, 0), (17, 0), (18, 0), (19, 0), (20, 0), (21, 0), (22, 0), (23, 0), (24, 0), (25, 0), (26, 0), (27, 0), (28, 0), (29, 0)] rfl rfl rfl ?_
      refine sd_vv rfl rfl rfl (vv_move rfl) ?_
      refine sd_split rfl rfl rfl (vv_move rfl) (fun c4 => ?_) (fun c4 => ?_)
      ·
        replace hm := cnd_t c4 hm
        refine sd_vv rfl rfl rfl (vv_move rfl) ?_
        refine sd_vv rfl rfl rfl (vv_eql (a := x2.2) (b := 0) rfl rfl) ?_
        refine sd_vv rfl rfl rfl (vv_pickT rfl rfl) ?_
        refine sd_split rfl rfl rfl (vv_move rfl) (fun c5 => ?_) (fun c5 => ?_)
        ·
          replace hm := ite_t (of_decide_eq_true c5) hm
          have B36 := (Bx.md (Bx.gr (Bx.gr B30 Gw13) Gw14) Mw15)
          refine sd_vv rfl rfl rfl (vv_loadW agg_76 rfl B36 rfl) ?_
          have B37 := (Own.md (Own.gr (Own.gr B31 Gw13) Gw14) Mw15 (tk1 ((pv_lt (A := (fun x => x ≠ b14)) lt8) : z3_r0_1 = 0 ∨ g3_r0_1 ≠ b14)))
          have hb := bnd hm; clear hm; obtain ⟨x7, hx7, hm⟩ := hb
          refine sd_ev rfl rfl rfl (ev_call en_42 rfl (poly_CheckPunctured_w x2.1 _ _ _ _ _ hx7 _ (Own.rd B37))) ?_
          rintro _ w16 ⟨rfl, Gw16⟩
          have z38 := Gw16.size
          refine sd_vv rfl rfl rfl (vv_eql (a := x7) (b := 0) rfl rfl) ?_
          refine sd_vv rfl rfl rfl (vv_pickT rfl rfl) ?_
          refine sd_split rfl rfl rfl (vv_move rfl) (fun c6 => ?_) (fun c6 => ?_)
          ·
            replace hm := ite_t (of_decide_eq_true c6) hm
            refine sd_vv rfl rfl rfl (vv_move rfl) ?_
            refine sd_vv rfl rfl rfl (vv_eql (a := x4.2) (b := 6) rfl rfl) ?_
            refine sd_vv rfl rfl rfl (vv_pickT rfl rfl) ?_
            refine sd_split rfl rfl rfl (vv_move rfl) (fun c7 => ?_) (fun c7 => ?_)
            ·
              replace hm := ite_t (of_decide_eq_true c7) hm
              refine sd_vv rfl rfl rfl (vv_move rfl) ?_
              refine sd_vv rfl rfl rfl (vv_move rfl) ?_
              refine sd_vv rfl rfl rfl (vv_eql (a := p2) (b := p1) rfl rfl) ?_
              refine sd_split rfl rfl rfl (vv_move rfl) (fun c8 => ?_) (fun c8 => ?_)
              ·
                replace hm := ite_t (of_decide_eq_true c8) hm
                refine sd_skip rfl rfl rfl ?_
                refine sd_skip rfl rfl rfl ?_
                refine sd_skip rfl rfl rfl ?_
                refine sd_skip rfl rfl rfl ?_
                refine sd_skip rfl rfl rfl ?_
                refine sd_skip rfl rfl rfl ?_
                refine sd_skip rfl rfl rfl ?_
                refine sd_skip rfl rfl rfl ?_
                refine sd_vv rfl rfl rfl (vv_pickT rfl rfl) ?_
                refine sd_vv rfl rfl rfl (vv_pickT rfl rfl) ?_
                refine sd_vv rfl rfl rfl (vv_assign rfl) ?_
                refine sd_done ?_
                refine sw_ret ?_
                have X39 : Gr w w16 := (Gr.trans (Gr.md (Gr.trans (Gr.trans (Gr.md (Gr.trans (Gr.trans (Gr.md (Gr.trans (Gr.trans (Gr.kz X13 Kw6) Gw7) Gw8) Mw9) Gw10) Gw11) Mw12) Gw13) Gw14) Mw15) Gw16)
                have hr := Option.some.inj hm
                subst hr
                refine ⟨_, _, rfl, res_1 rfl (rv_tmp rfl), ?_⟩
                exact ⟨rfl, X39⟩
              ·
                replace hm := ite_f (of_decide_eq_false c8) hm
                refine sd_vv rfl rfl rfl (vv_move rfl) ?_
                refine sd_vv rfl rfl rfl (vv_move rfl) ?_
                refine sd_vv rfl rfl rfl (vv_eql (a := x5.2) (b := x6.2) rfl rfl) ?_
                refine sd_split rfl rfl rfl (vv_move rfl) (fun c9 => ?_) (fun c9 => ?_)
                ·
                  replace hm := ite_t (of_decide_eq_true c9) hm
                  have B40 := (Bx.gr (Bx.md (Bx.gr (Bx.gr Bw12 Gw13) Gw14) Mw15) Gw16)
                  refine sd_vv rfl rfl rfl (vv_loadW agg_23 rfl B40 rfl) ?_
                  have B41 := (Bx.gr Bw15 Gw16)
                  refine sd_vv rfl rfl rfl (vv_loadW agg_23 rfl B41 rfl) ?_
                  refine sd_vv rfl rfl rfl (vv_eqlS (cf := kb) (a := x5.1) (b := x6.1) eqt_23 rfl rfl rfl rfl (fun h => kb_inj h)) ?_
                  refine sd_vv rfl rfl rfl (vv_pickT rfl rfl) ?_
                  refine sd_vv rfl rfl rfl (vv_pickF rfl rfl) ?_
                  refine sd_vv rfl rfl rfl (vv_pickT rfl rfl) ?_
                  refine sd_vv rfl rfl rfl (vv_assign rfl) ?_
                  refine sd_done ?_
                  refine sw_ret ?_
                  have X42 : Gr w w16 := (Gr.trans (Gr.md (Gr.trans (Gr.trans (Gr.md (Gr.trans (Gr.trans (Gr.md (Gr.trans (Gr.trans (Gr.kz X13 Kw6) Gw7) Gw8) Mw9) Gw10) Gw11) Mw12) Gw13) Gw14) Mw15) Gw16)
                  have hr := Option.some.inj hm
                  subst hr
                  refine ⟨_, _, rfl, res_1 rfl (rv_tmp rfl), ?_⟩
                  exact ⟨rfl, X42⟩
                ·
                  replace hm := ite_f (of_decide_eq_false c9) hm
                  refine sd_skip rfl rfl rfl ?_
                  refine sd_skip rfl rfl rfl ?_
                  refine sd_skip rfl rfl rfl ?_
                  refine sd_vv rfl rfl rfl (vv_pickF rfl rfl) ?_
                  refine sd_vv rfl rfl rfl (vv_pickF rfl rfl) ?_
                  refine sd_vv rfl rfl rfl (vv_pickT rfl rfl) ?_
                  refine sd_vv rfl rfl rfl (vv_assign rfl) ?_
                  refine sd_done ?_
                  refine sw_ret ?_
                  have X43 : Gr w w16 := (Gr.trans (Gr.md (Gr.trans (Gr.trans (Gr.md (Gr.trans (Gr.trans (Gr.md (Gr.trans (Gr.trans (Gr.kz X13 Kw6) Gw7) Gw8) Mw9) Gw10) Gw11) Mw12) Gw13) Gw14) Mw15) Gw16)
                  have hr := Option.some.inj hm
                  subst hr
                  refine ⟨_, _, rfl, res_1 rfl (rv_tmp rfl), ?_⟩
                  exact ⟨rfl, X43⟩
            ·
              replace hm := ite_f (of_decide_eq_false c7) hm
              refine sd_skip rfl rfl rfl ?_
              refine sd_skip rfl rfl rfl ?_
              refine sd_skip rfl rfl rfl ?_
              refine sd_skip rfl rfl rfl ?_
              refine sd_skip rfl rfl rfl ?_
              refine sd_skip rfl rfl rfl ?_
              refine sd_skip rfl rfl rfl ?_
              refine sd_skip rfl rfl rfl ?_
              refine sd_skip rfl rfl rfl ?_
              refine sd_skip rfl rfl rfl ?_
              refine sd_skip rfl rfl rfl ?_
              refine sd_skip rfl rfl rfl ?_
              refine sd_skip rfl rfl rfl ?_
              refine sd_vv rfl rfl rfl (vv_pickF rfl rfl) ?_
              refine sd_vv rfl rfl rfl (vv_assign rfl) ?_
              refine sd_done ?_
              refine sw_ret ?_
              have X44 : Gr w w16 := (Gr.trans (Gr.md (Gr.trans (Gr.trans (Gr.md (Gr.trans (Gr.trans (Gr.md (Gr.trans (Gr.trans (Gr.kz X13 Kw6) Gw7) Gw8) Mw9) Gw10) Gw11) Mw12) Gw13) Gw14) Mw15) Gw16)
              have hr := Option.some.inj hm
              subst hr
              refine ⟨_, _, rfl, res_1 rfl (rv_tmp rfl), ?_⟩
              exact ⟨rfl, X44⟩
          ·
            replace hm := ite_f (of_decide_eq_false c6) hm
            refine sd_skip rfl rfl rfl ?_
            refine sd_skip rfl rfl rfl ?_
            refine sd_vv rfl rfl rfl (vv_pickF rfl rfl) ?_
            refine sd_vv rfl rfl rfl (vv_move rfl) ?_
            refine sd_skip rfl rfl rfl ?_
            refine sd_skip rfl rfl rfl ?_
            refine sd_skip rfl rfl rfl ?_
            refine sd_skip rfl rfl rfl ?_
            refine sd_skip rfl rfl rfl ?_
            refine sd_skip rfl rfl rfl ?_
            refine sd_skip rfl rfl rfl ?_
            refine sd_skip rfl rfl rfl ?_
            refine sd_skip rfl rfl rfl ?_
            refine sd_skip rfl rfl rfl ?_
            refine sd_skip rfl rfl rfl ?_
            refine sd_skip rfl rfl rfl ?_
            refine sd_skip rfl rfl rfl ?_
            refine sd_vv rfl rfl rfl (vv_pickF rfl rfl) ?_
            refine sd_vv rfl rfl rfl (vv_assign rfl) ?_
            refine sd_done ?_
            refine sw_ret ?_
            have X45 : Gr w w16 := (Gr.trans (Gr.md (Gr.trans (Gr.trans (Gr.md (Gr.trans (Gr.trans (Gr.md (Gr.trans (Gr.trans (Gr.kz X13 Kw6) Gw7) Gw8) Mw9) Gw10) Gw11) Mw12) Gw13) Gw14) Mw15) Gw16)
            have hr := Option.some.inj hm
            subst hr
            refine ⟨_, _, rfl, res_1 rfl (rv_tmp rfl), ?_⟩
            exact ⟨rfl, X45⟩
        ·
          replace hm := ite_f (of_decide_eq_false c5) hm
          refine sd_skip rfl rfl rfl ?_
          refine sd_skip rfl rfl rfl ?_
          refine sd_skip rfl rfl rfl ?_
          refine sd_vv rfl rfl rfl (vv_pickF rfl rfl) ?_
          refine sd_vv rfl rfl rfl (vv_move rfl) ?_
          refine sd_skip rfl rfl rfl ?_
          refine sd_skip rfl rfl rfl ?_
          refine sd_vv rfl rfl rfl (vv_pickF rfl rfl) ?_
          refine sd_vv rfl rfl rfl (vv_move rfl) ?_
          refine sd_skip rfl rfl rfl ?_
          refine sd_skip rfl rfl rfl ?_
          refine sd_skip rfl rfl rfl ?_
          refine sd_skip rfl rfl rfl ?_
          refine sd_skip rfl rfl rfl ?_
          refine sd_skip rfl rfl rfl ?_
          refine sd_skip rfl rfl rfl ?_
          refine sd_skip rfl rfl rfl ?_
          refine sd_skip rfl rfl rfl ?_
          refine sd_skip rfl rfl rfl ?_
          refine sd_skip rfl rfl rfl ?_
          refine sd_skip rfl rfl rfl ?_
          refine sd_skip rfl rfl rfl ?_
          refine sd_vv rfl rfl rfl (vv_pickF rfl rfl) ?_
          refine sd_vv rfl rfl rfl (vv_assign rfl) ?_
          refine sd_done ?_
          refine sw_ret ?_
          have X46 : Gr w w15 := (Gr.md (Gr.trans (Gr.trans (Gr.md (Gr.trans (Gr.trans (Gr.md (Gr.trans (Gr.trans (Gr.kz X13 Kw6) Gw7) Gw8) Mw9) Gw10) Gw11) Mw12) Gw13) Gw14) Mw15)
          have hr := Option.some.inj hm
          subst hr
          refine ⟨_, _, rfl, res_1 rfl (rv_tmp rfl), ?_⟩
          exact ⟨rfl, X46⟩
      ·
        replace hm := cnd_f c4 hm
        refine sd_skip rfl rfl rfl ?_
        refine sd_skip rfl rfl rfl ?_
        refine sd_vv rfl rfl rfl (vv_pickF rfl rfl) ?_
        refine sd_vv rfl rfl rfl (vv_move rfl) ?_
        refine sd_skip rfl rfl rfl ?_
        refine sd_skip rfl rfl rfl ?_
        refine sd_skip rfl rfl rfl ?_
        refine sd_vv rfl rfl rfl (vv_pickF rfl rfl) ?_
        refine sd_vv rfl rfl rfl (vv_move rfl) ?_
        refine sd_skip rfl rfl rfl ?_
        refine sd_skip rfl rfl rfl ?_
        refine sd_vv rfl rfl rfl (vv_pickF rfl rfl) ?_
        refine sd_vv rfl rfl rfl (vv_move rfl) ?_
        refine sd_skip rfl rfl rfl ?_
        refine sd_skip rfl rfl rfl ?_
        refine sd_skip rfl rfl rfl ?_
        refine sd_skip rfl rfl rfl ?_
        refine sd_skip rfl rfl rfl ?_
        refine sd_skip rfl rfl rfl ?_
        refine sd_skip rfl rfl rfl ?_
        refine sd_skip rfl rfl rfl ?_
        refine sd_skip rfl rfl rfl ?_
        refine sd_skip rfl rfl rfl ?_
        refine sd_skip rfl rfl rfl ?_
        refine sd_skip rfl rfl rfl ?_
        refine sd_skip rfl rfl rfl ?_
        refine sd_vv rfl rfl rfl (vv_pickF rfl rfl) ?_
        refine sd_vv rfl rfl rfl (vv_assign rfl) ?_
        refine sd_done ?_
        refine sw_ret ?_
        have X47 : Gr w w15 := (Gr.md (Gr.trans (Gr.trans (Gr.md (Gr.trans (Gr.trans (Gr.md (Gr.trans (Gr.trans (Gr.kz X13 Kw6) Gw7) Gw8) Mw9) Gw10) Gw11) Mw12) Gw13) Gw14) Mw15)
        have hr := Option.some.inj hm
        subst hr
        refine ⟨_, _, rfl, res_1 rfl (rv_tmp rfl), ?_⟩
        exact ⟨rfl, X47⟩
  ·
    -- region 3 outright.go:336
    refine sw_region [(0, 0), (1, 0), (2, 0), (3, 0), (4, 0), (5, 0), (6, 0), (7, 0), (8, 0), (9, 0), (10, 0), (11, 0), (12, 0), (13, 0)] rfl rfl rfl ?_
    have B48 := (Bx.md (Bx.gr (Bx.gr B5 Gw3) Gw4) Mw5)
    refine sd_vv rfl rfl rfl (vv_loadW agg_76 rfl B48 rfl) ?_
    have B49 := (Rd.md (Rd.gr (Rd.gr B6 Gw3) Gw4) Mw5 (tk1 ((pv_lt (A := (fun x => x ≠ b4)) lt1) : zp0_1 = 0 ∨ gp0_1 ≠ b4)))
    have hb := bnd hm; clear hm; obtain ⟨x8, hx8, hm⟩ := hb
    refine sd_ev rfl rfl rfl (ev_call en_60 rfl (ref04_ValidPunctured_w p0 _ _ _ _ _ hx8 _ B49)) ?_
    rintro _ w17 ⟨rfl, Gw17⟩
    have z50 := Gw17.size
    refine sd_vv rfl rfl rfl (vv_not rfl) ?_
    refine sd_split rfl rfl rfl (vv_move rfl) (fun c10 => ?_) (fun c10 => ?_)
    ·
      replace hm := cnd_t c10 hm
      refine sd_skip rfl rfl rfl ?_
      refine sd_skip rfl rfl rfl ?_
      refine sd_vv rfl rfl rfl (vv_pickT rfl rfl) ?_
      refine sd_vv rfl rfl rfl (vv_move rfl) ?_
      refine sd_skip rfl rfl rfl ?_
      refine sd_skip rfl rfl rfl ?_
      refine sd_skip rfl rfl rfl ?_
      refine sd_skip rfl rfl rfl ?_
      refine sd_skip rfl rfl rfl ?_
      refine sd_vv rfl rfl rfl (vv_pickT rfl rfl) ?_
      refine sd_nil ?_
      have K_51 : Kz [] w5 w17 := (Kz.gr (Kz.refl _ _) Gw17)
      refine ⟨rfl, true, ?_, hm, K_51⟩
      repeat' first | exact trivial | refine ⟨rfl, ?_⟩
    ·
      replace hm := cnd_f c10 hm
      refine sd_vv rfl rfl rfl (vv_move rfl) ?_
      refine sd_vv rfl rfl rfl (vv_lss (a := p1) (b := 0) rfl rfl) ?_
      refine sd_vv rfl rfl rfl (vv_pickF rfl rfl) ?_
      refine sd_split rfl rfl rfl (vv_move rfl) (fun c11 => ?_) (fun c11 => ?_)
      ·
        replace hm := ite_t (of_decide_eq_true c11) hm
        refine sd_skip rfl rfl rfl ?_
        refine sd_skip rfl rfl rfl ?_
        refine sd_skip rfl rfl rfl ?_
        refine sd_skip rfl rfl rfl ?_
        refine sd_skip rfl rfl rfl ?_
        refine sd_vv rfl rfl rfl (vv_pickT rfl rfl) ?_
        refine sd_nil ?_
        have K_52 : Kz [] w5 w17 := (Kz.gr (Kz.refl _ _) Gw17)
        refine ⟨rfl, true, ?_, hm, K_52⟩
        repeat' first | exact trivial | refine ⟨rfl, ?_⟩
      ·
        replace hm := ite_f (of_decide_eq_false c11) hm
        refine sd_vv rfl rfl rfl (vv_move rfl) ?_
        refine sd_vv rfl rfl rfl (vv_fieldAddr fa_76_0 rfl) ?_
        have B53 := (Bx.gr B48 Gw17)
        refine sd_vv rfl rfl rfl (vv_load1 (v := .int .i64 p0.Depth) one_3 rfl B53 rfl) ?_
        have hb := bnd hm; clear hm; obtain ⟨n9, hn9, hm⟩ := hb
        refine sd_vv rfl rfl rfl (vv_shlI (a := 1) (b := p0.Depth) rfl rfl hn9) ?_
        refine sd_vv rfl rfl rfl (vv_geq (a := p1) (b := shlI 1 n9) rfl rfl) ?_
        refine sd_vv rfl rfl rfl (vv_pickF rfl rfl) ?_
        refine sd_nil ?_
        have K_54 : Kz [] w5 w17 := (Kz.gr (Kz.refl _ _) Gw17)
        refine ⟨rfl, (decide (shlI 1 n9 ≤ p1)), ?_, hm, K_54⟩
        repeat' first | exact trivial | refine ⟨rfl, ?_⟩
end Go.Proofs.Ytkdghilkigojgaa.Mx
