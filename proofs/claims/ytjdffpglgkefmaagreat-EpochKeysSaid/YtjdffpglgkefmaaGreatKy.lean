/- Walks that follow mirrors: Ky. Printed by mx.py. -/
import Derived.Test.YtjdffpglgkefmaaGreatWe5
import Derived.Test.YtjdffpglgkefmaaGreatKyM
set_option linter.unusedVariables false
set_option linter.unusedSimpArgs false
set_option maxRecDepth 100000
namespace Go.Proofs.YtjdffpglgkefmaaGreat.Mx
open Go Go.RowKit Go.Sx
theorem en_13 : En Tryz.prog 13 := fun _ _ => by kernel_rfl
theorem en_14 : En Tryz.prog 14 := fun _ _ => by kernel_rfl
theorem en_15 : En Tryz.prog 15 := fun _ _ => by kernel_rfl
theorem en_16 : En Tryz.prog 16 := fun _ _ => by kernel_rfl
theorem eqt_23 : EqT Tryz.prog 23 [.i .u8, .i .u8, .i .u8, .i .u8, .i .u8, .i .u8, .i .u8, .i .u8, .i .u8, .i .u8, .i .u8, .i .u8, .i .u8, .i .u8, .i .u8, .i .u8] := ⟨by kernel_rfl, agg_23, 2, by decide, eqc_23⟩
theorem en_17 : En Tryz.prog 17 := fun _ _ => by kernel_rfl
theorem en_18 : En Tryz.prog 18 := fun _ _ => by kernel_rfl
theorem en_19 : En Tryz.prog 19 := fun _ _ => by kernel_rfl
theorem en_21 : En Tryz.prog 21 := fun _ _ => by kernel_rfl

set_option maxHeartbeats 2000000 in
theorem law05_EpochKeys_w (p0 : W2) (p1 : TScheme) (p2 : Int) (p3 : Int)  (r : Bool) (hm : law05_EpochKeys p0 p1 p2 p3 = some r) (w : World)   :
    Calls Tryz.prog 3 [kv p0, .agg (TScheme.cs p1).toArray, .int .i64 p2, .int .i64 p3].toArray w fun e w' => ∃ v, e = .returned v ∧ (v = .bool r ∧ Gr w w') := by
  unfold law05_EpochKeys at hm
  refine calls_of_sw (R := fun v w' => v = .bool r ∧ Gr w w') 62 Tryz.func3 rfl rfl rfl ?_
  refine sw_seq ?_
  -- region 0 law.go:44
  refine sw_region [(0, 0), (1, 0), (2, 0)] rfl rfl rfl ?_
  refine sd_ev rfl rfl rfl (ev_box (cs := kb p0) rfl rfl) ?_
  rintro _ w1 ⟨b1, rfl, hbw1, Bw1, Gw1⟩
  have z1 := Gw1.size
  have lt2 := Bw1.lt
  refine sd_ev rfl rfl rfl (ev_box (cs := TScheme.cs p1) rfl rfl) ?_
  rintro _ w2 ⟨b2, rfl, hbw2, Bw2, Gw2⟩
  have z3 := Gw2.size
  have lt4 := Bw2.lt
  refine sd_vv rfl rfl rfl (vv_assign rfl) ?_
  refine sd_done ?_
  refine sw_seq ?_
  -- region 1 law.go:45
  refine sw_region [(0, 0), (1, 0), (2, 0), (3, 0), (4, 0), (5, 0), (6, 0), (7, 0), (8, 0), (9, 0)] rfl rfl rfl ?_
  have B5 := (Bx.gr Bw1 Gw2)
  refine sd_vv rfl rfl rfl (vv_loadW agg_23 rfl B5 rfl) ?_
  refine sd_vv rfl rfl rfl (vv_loadW agg_28 rfl Bw2 rfl) ?_
  refine sd_vv rfl rfl rfl (vv_move rfl) ?_
  have hb := bnd hm; clear hm; obtain ⟨x1, hx1, hm⟩ := hb
  refine sd_ev rfl rfl rfl (ev_call en_13 rfl (epoch_Secret_w p0 p1 p3 _ hx1 _)) ?_
  rintro _ w3 ⟨u3_r0_1, z3_r0_1, g3_r0_1, rfl, O3_r0_1, f3_r0_1, Gw3⟩
  have z6 := Gw3.size
  have lt7 := O3_r0_1.lth
  refine sd_vv rfl rfl rfl (vv_move rfl) ?_
  refine sd_vv rfl rfl rfl (vv_extract rfl rfl) ?_
  refine sd_vv rfl rfl rfl (vv_extract rfl rfl) ?_
  refine sd_ev rfl rfl rfl (ev_alloc (cs := TSecret.cs (TSecret.mk 0 [] (TPoint.mk 0#64 0#64)) (.slice none 0 0)) zv_33 rfl) ?_
  rintro _ w4 ⟨b4, rfl, hbw4, Bw4, Gw4⟩
  have z8 := Gw4.size
  have lt9 := Bw4.lt
  have B10 := (Own.gr O3_r0_1 Gw4)
  refine sd_ev rfl rfl rfl (ev_stM (cs' := TSecret.cs x1.1 u3_r0_1) (vs := TSecret.cs x1.1 u3_r0_1) (agg_33).siz rfl rfl rfl rfl (TSecret.cs_ones _ _ (Own.oneB B10)) Bw4 rfl rfl) ?_
  rintro _ w5 ⟨Bw5, Mw5⟩
  have z11 := Mw5.size
  refine sd_vv rfl rfl rfl (vv_assign rfl) ?_
  refine sd_done ?_
  refine sw_seq ?_
  -- region 2 law.go:46
  refine sw_region [(0, 0), (1, 0), (2, 0), (3, 0), (4, 0), (5, 0), (6, 0), (7, 0), (8, 0), (9, 0)] rfl rfl rfl ?_
  have B12 := (Bx.md (Bx.gr (Bx.gr B5 Gw3) Gw4) Mw5)
  refine sd_vv rfl rfl rfl (vv_loadW agg_23 rfl B12 rfl) ?_
  have B13 := (Bx.md (Bx.gr (Bx.gr Bw2 Gw3) Gw4) Mw5)
  refine sd_vv rfl rfl rfl (vv_loadW agg_28 rfl B13 rfl) ?_
  refine sd_vv rfl rfl rfl (vv_move rfl) ?_
  have hb := bnd hm; clear hm; obtain ⟨x2, hx2, hm⟩ := hb
  refine sd_ev rfl rfl rfl (ev_call en_14 rfl (ref05_Secret_w p0 p1 p3 _ hx2 _)) ?_
  rintro _ w6 ⟨u6_r0_1, z6_r0_1, g6_r0_1, rfl, O6_r0_1, f6_r0_1, Gw6⟩
  have z14 := Gw6.size
  have lt15 := O6_r0_1.lth
  refine sd_vv rfl rfl rfl (vv_move rfl) ?_
  refine sd_vv rfl rfl rfl (vv_extract rfl rfl) ?_
  refine sd_vv rfl rfl rfl (vv_extract rfl rfl) ?_
  refine sd_ev rfl rfl rfl (ev_alloc (cs := TSecret.cs (TSecret.mk 0 [] (TPoint.mk 0#64 0#64)) (.slice none 0 0)) zv_33 rfl) ?_
  rintro _ w7 ⟨b7, rfl, hbw7, Bw7, Gw7⟩
  have z16 := Gw7.size
  have lt17 := Bw7.lt
  have B18 := (Own.gr O6_r0_1 Gw7)
  refine sd_ev rfl rfl rfl (ev_stM (cs' := TSecret.cs x2.1 u6_r0_1) (vs := TSecret.cs x2.1 u6_r0_1) (agg_33).siz rfl rfl rfl rfl (TSecret.cs_ones _ _ (Own.oneB B18)) Bw7 rfl rfl) ?_
  rintro _ w8 ⟨Bw8, Mw8⟩
  have z19 := Mw8.size
  refine sd_vv rfl rfl rfl (vv_assign rfl) ?_
  refine sd_done ?_
  refine sw_seq ?_
  -- region 3 law.go:47
  refine sw_region [(0, 0), (1, 0), (2, 0), (3, 0), (4, 0)] rfl rfl rfl ?_
  have B20 := (Bx.md (Bx.gr (Bx.gr B12 Gw6) Gw7) Mw8)
  refine sd_vv rfl rfl rfl (vv_loadW agg_23 rfl B20 rfl) ?_
  refine sd_vv rfl rfl rfl (vv_move rfl) ?_
  have hb := bnd hm; clear hm; obtain ⟨x3, hx3, hm⟩ := hb
  refine sd_ev rfl rfl rfl (ev_call en_15 rfl (epoch_Session_w p0 p2 _ hx3 _)) ?_
  rintro _ w9 ⟨rfl, Gw9⟩
  have z21 := Gw9.size
  refine sd_ev rfl rfl rfl (ev_alloc (cs := kb k0) zv_23 rfl) ?_
  rintro _ w10 ⟨b10, rfl, hbw10, Bw10, Gw10⟩
  have z22 := Gw10.size
  have lt23 := Bw10.lt
  refine sd_ev rfl rfl rfl (ev_stM (cs' := kb x3) (vs := kb x3) (agg_23).siz rfl rfl rfl rfl rfl Bw10 rfl rfl) ?_
  rintro _ w11 ⟨Bw11, Mw11⟩
  have z24 := Mw11.size
  refine sd_done ?_
  refine sw_seq ?_
  -- region 4 law.go:48 DRAWS
  refine sw_drawN [([])] [] (.leaf [(0, 10), (1, 10), (2, 10), (3, 0), (4, 10), (5, 10), (6, 10), (7, 10), (9, 10), (10, 10), (8, 0), (11, 0), (12, 10), (13, 10), (14, 10), (15, 10), (17, 10), (16, 0), (18, 0), (19, 10), (20, 10), (21, 10), (22, 10), (23, 10), (24, 0), (25, 10), (26, 10), (27, 10), (28, 10), (29, 10), (30, 10), (31, 10)]) (by kernel_rfl) (by kernel_rfl) rfl (by kernel_rfl) ?_
  intro w12 Gw12 zw12
  refine sdz_leaf ?_
  have B25 := (Bx.gr Bw11 Gw12)
  refine dd_hn 0 rfl rfl rfl rfl (Kp.refl ([]) w12) (fun w hS => vv_loadW agg_23 rfl (Bx.kp B25 hS) rfl) ?_
  have B26 := (Bx.gr (Bx.md (Bx.gr (Bx.gr B20 Gw9) Gw10) Mw11) Gw12)
  refine dd_hn 0 rfl rfl rfl rfl (Kp.refl ([]) w12) (fun w hS => vv_loadW agg_23 rfl (Bx.kp B26 hS) rfl) ?_
  refine dd_hn 0 rfl rfl rfl rfl (Kp.refl ([]) w12) (fun w hS => vv_move rfl) ?_
  have hb := bnd hm; clear hm; obtain ⟨x4, hx4, hm⟩ := hb
  refine dd_z [] rfl rfl rfl (ev_call en_16 rfl (ref05_Session_w p0 p2 _ hx4 _)) ⟨fun _ => tk0, trivial⟩ ?_
  rintro _ w13 ⟨rfl, Gw13⟩
  have z27 := Gw13.size
  refine ⟨Kz.ofGr Gw13, ?_⟩
  have S28 := (Kp.gr (Kp.refl ([]) w12) Gw13)
  refine dd_hn 0 rfl rfl rfl rfl S28 (fun w hS => vv_eqlS (cf := kb) (a := x3) (b := x4) eqt_23 rfl rfl rfl rfl (fun h => kb_inj h)) ?_
  refine dd_pn 0 rfl rfl rfl rfl S28 (fun w hS => vv_move rfl) (fun c1 => ?_) (fun c1 => ?_)
  ·
    replace hm := ite_t (of_decide_eq_true c1) hm
    refine dd_hn 0 rfl rfl rfl rfl S28 (fun w hS => vv_loadW agg_23 rfl (Bx.kp B25 hS) rfl) ?_
    refine dd_hn 0 rfl rfl rfl rfl S28 (fun w hS => vv_move rfl) ?_
    refine dd_hn 0 rfl rfl rfl rfl S28 (fun w hS => vv_loadW agg_23 rfl (Bx.kp B25 hS) rfl) ?_
    refine dd_hn 0 rfl rfl rfl rfl S28 (fun w hS => vv_move rfl) ?_
    have hb := bnd hm; clear hm; obtain ⟨x5, hx5, hm⟩ := hb
    refine dd_z [] rfl rfl rfl (ev_call en_17 rfl (epoch_Word_w x3 p3 _ hx5 _)) ⟨fun _ => tk0, trivial⟩ ?_
    rintro _ w14 ⟨rfl, Gw14⟩
    have z29 := Gw14.size
    refine ⟨Kz.ofGr Gw14, ?_⟩
    have hb := bnd hm; clear hm; obtain ⟨x6, hx6, hm⟩ := hb
    refine dd_z [] rfl rfl rfl (ev_call en_18 rfl (ref05_Word_w x3 p3 _ hx6 _)) ⟨fun _ => tk0, trivial⟩ ?_
    rintro _ w15 ⟨rfl, Gw15⟩
    have z30 := Gw15.size
    refine ⟨Kz.ofGr Gw15, ?_⟩
    have S31 := (Kp.gr (Kp.gr S28 Gw14) Gw15)
    refine dd_hn 0 rfl rfl rfl rfl S31 (fun w hS => vv_eqlS (cf := kb) (a := x5) (b := x6) eqt_23 rfl rfl rfl rfl (fun h => kb_inj h)) ?_
    refine dd_hn 0 rfl rfl rfl rfl S31 (fun w hS => vv_pickT rfl rfl) ?_
    refine dd_pn 0 rfl rfl rfl rfl S31 (fun w hS => vv_move rfl) (fun c2 => ?_) (fun c2 => ?_)
    ·
      replace hm := ite_t (of_decide_eq_true c2) hm
      have B32 := (Bx.gr (Bx.md (Bx.gr (Bx.gr (Bx.md (Bx.gr (Bx.gr B13 Gw6) Gw7) Mw8) Gw9) Gw10) Mw11) Gw12)
      refine dd_hn 0 rfl rfl rfl rfl S31 (fun w hS => vv_loadW agg_28 rfl (Bx.kp B32 hS) rfl) ?_
      refine dd_hn 0 rfl rfl rfl rfl S31 (fun w hS => vv_loadW agg_28 rfl (Bx.kp B32 hS) rfl) ?_
      have hb := bnd hm; clear hm; obtain ⟨x7, hx7, hm⟩ := hb
      refine dd_z [] rfl rfl rfl (ev_call en_19 rfl (epoch_CheckScheme_w p1 _ hx7 _)) ⟨fun _ => tk0, trivial⟩ ?_
      rintro _ w16 ⟨rfl, Gw16⟩
      have z33 := Gw16.size
      refine ⟨Kz.ofGr Gw16, ?_⟩
      have hb := bnd hm; clear hm; obtain ⟨x8, hx8, hm⟩ := hb
      refine dd_z [] rfl rfl rfl (ev_call en_20 rfl (ref05_CheckScheme_w p1 _ hx8 _)) ⟨fun _ => tk0, trivial⟩ ?_
      rintro _ w17 ⟨rfl, Gw17⟩
      have z34 := Gw17.size
      refine ⟨Kz.ofGr Gw17, ?_⟩
      have S35 := (Kp.gr (Kp.gr S31 Gw16) Gw17)
      refine dd_hn 0 rfl rfl rfl rfl S35 (fun w hS => vv_eql (a := x7) (b := x8) rfl rfl) ?_
      refine dd_hn 0 rfl rfl rfl rfl S35 (fun w hS => vv_pickT rfl rfl) ?_
      refine dd_pn 0 rfl rfl rfl rfl S35 (fun w hS => vv_move rfl) (fun c3 => ?_) (fun c3 => ?_)
      ·
        replace hm := ite_t (of_decide_eq_true c3) hm
        have B36 := (Bx.gr (Bx.md (Bx.gr (Bx.gr (Bx.md (Bx.gr (Bx.gr Bw5 Gw6) Gw7) Mw8) Gw9) Gw10) Mw11) Gw12)
        refine dd_hn 0 rfl rfl rfl rfl S35 (fun w hS => vv_loadW agg_33 rfl (Bx.kp B36 hS) rfl) ?_
        have B37 := (Bx.gr (Bx.md (Bx.gr (Bx.gr Bw8 Gw9) Gw10) Mw11) Gw12)
        refine dd_hn 0 rfl rfl rfl rfl S35 (fun w hS => vv_loadW agg_33 rfl (Bx.kp B37 hS) rfl) ?_
        have B38 := (Own.gr (Own.gr (Own.gr (Own.gr (Own.gr (Own.gr (Own.md (Own.gr (Own.gr (Own.md (Own.gr (Own.gr (Own.md B10 Mw5 (tk1 ((pv_lt (A := (fun x => x ≠ b4)) lt7) : z3_r0_1 = 0 ∨ g3_r0_1 ≠ b4))) Gw6) Gw7) Mw8 (tk1 ((pv_lt (A := (fun x => x ≠ b7)) lt7) : z3_r0_1 = 0 ∨ g3_r0_1 ≠ b7))) Gw9) Gw10) Mw11 (tk1 ((pv_lt (A := (fun x => x ≠ b10)) lt7) : z3_r0_1 = 0 ∨ g3_r0_1 ≠ b10))) Gw12) Gw13) Gw14) Gw15) Gw16) Gw17)
        have B39 := (Own.gr (Own.gr (Own.gr (Own.gr (Own.gr (Own.gr (Own.md (Own.gr (Own.gr (Own.md B18 Mw8 (tk1 ((pv_lt (A := (fun x => x ≠ b7)) lt15) : z6_r0_1 = 0 ∨ g6_r0_1 ≠ b7))) Gw9) Gw10) Mw11 (tk1 ((pv_lt (A := (fun x => x ≠ b10)) lt15) : z6_r0_1 = 0 ∨ g6_r0_1 ≠ b10))) Gw12) Gw13) Gw14) Gw15) Gw16) Gw17)
        have hb := bnd hm; clear hm; obtain ⟨x9, hx9, hm⟩ := hb
        refine dd_z [] rfl rfl rfl (ev_call en_21 rfl (ref05_SameSecret_w x1.1 x2.1 _ _ _ _ _ _ _ _ _ hx9 _ (Own.rd B38) (Own.rd B39))) ⟨fun _ => tk0, trivial⟩ ?_
        rintro _ w18 ⟨rfl, Gw18⟩
        have z40 := Gw18.size
        refine ⟨Kz.ofGr Gw18, ?_⟩
        have S41 := (Kp.gr S35 Gw18)
        refine dd_hn 0 rfl rfl rfl rfl S41 (fun w hS => vv_pickT rfl rfl) ?_
        refine dd_pn 0 rfl rfl rfl rfl S41 (fun w hS => vv_move rfl) (fun c4 => ?_) (fun c4 => ?_)
        ·
          replace hm := cnd_t c4 hm
          refine dd_hn 0 rfl rfl rfl rfl S41 (fun w hS => vv_move rfl) ?_
          refine dd_hn 0 rfl rfl rfl rfl S41 (fun w hS => vv_move rfl) ?_
          refine dd_hn 0 rfl rfl rfl rfl S41 (fun w hS => vv_eql (a := x1.2) (b := x2.2) rfl rfl) ?_
          refine dd_hn 0 rfl rfl rfl rfl S41 (fun w hS => vv_pickT rfl rfl) ?_
          refine dd_hn 0 rfl rfl rfl rfl S41 (fun w hS => vv_assign rfl) ?_
          refine sd_done ?_
          refine sw_ret ?_
          have X42 : Gr w w18 := (Gr.trans (Gr.trans (Gr.trans (Gr.trans (Gr.trans (Gr.trans (Gr.trans (Gr.md (Gr.trans (Gr.trans (Gr.md (Gr.trans (Gr.trans (Gr.md (Gr.trans (Gr.trans (Gr.trans (Gr.trans (Gr.refl w) Gw1) Gw2) Gw3) Gw4) Mw5) Gw6) Gw7) Mw8) Gw9) Gw10) Mw11) Gw12) Gw13) Gw14) Gw15) Gw16) Gw17) Gw18)
          have hr := Option.some.inj hm
          subst hr
          refine ⟨_, _, rfl, res_1 rfl (rv_tmp rfl), ?_⟩
          exact ⟨rfl, X42⟩
        ·
          replace hm := cnd_f c4 hm
          refine dd_sn 0 rfl rfl rfl rfl S41 ?_
          refine dd_sn 0 rfl rfl rfl rfl S41 ?_
          refine dd_sn 0 rfl rfl rfl rfl S41 ?_
          refine dd_hn 0 rfl rfl rfl rfl S41 (fun w hS => vv_pickF rfl rfl) ?_
          refine dd_hn 0 rfl rfl rfl rfl S41 (fun w hS => vv_assign rfl) ?_
          refine sd_done ?_
          refine sw_ret ?_
          have X43 : Gr w w18 := (Gr.trans (Gr.trans (Gr.trans (Gr.trans (Gr.trans (Gr.trans (Gr.trans (Gr.md (Gr.trans (Gr.trans (Gr.md (Gr.trans (Gr.trans (Gr.md (Gr.trans (Gr.trans (Gr.trans (Gr.trans (Gr.refl w) Gw1) Gw2) Gw3) Gw4) Mw5) Gw6) Gw7) Mw8) Gw9) Gw10) Mw11) Gw12) Gw13) Gw14) Gw15) Gw16) Gw17) Gw18)
          have hr := Option.some.inj hm
          subst hr
          refine ⟨_, _, rfl, res_1 rfl (rv_tmp rfl), ?_⟩
          exact ⟨rfl, X43⟩
      ·
        replace hm := ite_f (of_decide_eq_false c3) hm
        refine dd_sn 0 rfl rfl rfl rfl S35 ?_
        refine dd_sn 0 rfl rfl rfl rfl S35 ?_
        refine dd_sz rfl rfl rfl ?_
        refine dd_hn 0 rfl rfl rfl rfl S35 (fun w hS => vv_pickF rfl rfl) ?_
        refine dd_hn 0 rfl rfl rfl rfl S35 (fun w hS => vv_move rfl) ?_
        refine dd_sn 0 rfl rfl rfl rfl S35 ?_
        refine dd_sn 0 rfl rfl rfl rfl S35 ?_
        refine dd_sn 0 rfl rfl rfl rfl S35 ?_
        refine dd_hn 0 rfl rfl rfl rfl S35 (fun w hS => vv_pickF rfl rfl) ?_
        refine dd_hn 0 rfl rfl rfl rfl S35 (fun w hS => vv_assign rfl) ?_
        refine sd_done ?_
        refine sw_ret ?_
        have X44 : Gr w w17 := (Gr.trans (Gr.trans (Gr.trans (Gr.trans (Gr.trans (Gr.trans (Gr.md (Gr.trans (Gr.trans (Gr.md (Gr.trans (Gr.trans (Gr.md (Gr.trans (Gr.trans (Gr.trans (Gr.trans (Gr.refl w) Gw1) Gw2) Gw3) Gw4) Mw5) Gw6) Gw7) Mw8) Gw9) Gw10) Mw11) Gw12) Gw13) Gw14) Gw15) Gw16) Gw17)
        have hr := Option.some.inj hm
        subst hr
        refine ⟨_, _, rfl, res_1 rfl (rv_tmp rfl), ?_⟩
        exact ⟨rfl, X44⟩
    ·
      replace hm := ite_f (of_decide_eq_false c2) hm
      refine dd_sn 0 rfl rfl rfl rfl S31 ?_
      refine dd_sn 0 rfl rfl rfl rfl S31 ?_
      refine dd_sz rfl rfl rfl ?_
      refine dd_sz rfl rfl rfl ?_
      refine dd_sn 0 rfl rfl rfl rfl S31 ?_
      refine dd_hn 0 rfl rfl rfl rfl S31 (fun w hS => vv_pickF rfl rfl) ?_
      refine dd_hn 0 rfl rfl rfl rfl S31 (fun w hS => vv_move rfl) ?_
      refine dd_sn 0 rfl rfl rfl rfl S31 ?_
      refine dd_sn 0 rfl rfl rfl rfl S31 ?_
      refine dd_sz rfl rfl rfl ?_
      refine dd_hn 0 rfl rfl rfl rfl S31 (fun w hS => vv_pickF rfl rfl) ?_
      refine dd_hn 0 rfl rfl rfl rfl S31 (fun w hS => vv_move rfl) ?_
      refine dd_sn 0 rfl rfl rfl rfl S31 ?_
      refine dd_sn 0 rfl rfl rfl rfl S31 ?_
      refine dd_sn 0 rfl rfl rfl rfl S31 ?_
      refine dd_hn 0 rfl rfl rfl rfl S31 (fun w hS => vv_pickF rfl rfl) ?_
      refine dd_hn 0 rfl rfl rfl rfl S31 (fun w hS => vv_assign rfl) ?_
      refine sd_done ?_
      refine sw_ret ?_
      have X45 : Gr w w15 := (Gr.trans (Gr.trans (Gr.trans (Gr.trans (Gr.md (Gr.trans (Gr.trans (Gr.md (Gr.trans (Gr.trans (Gr.md (Gr.trans (Gr.trans (Gr.trans (Gr.trans (Gr.refl w) Gw1) Gw2) Gw3) Gw4) Mw5) Gw6) Gw7) Mw8) Gw9) Gw10) Mw11) Gw12) Gw13) Gw14) Gw15)
      have hr := Option.some.inj hm
      subst hr
      refine ⟨_, _, rfl, res_1 rfl (rv_tmp rfl), ?_⟩
      exact ⟨rfl, X45⟩
  ·
    replace hm := ite_f (of_decide_eq_false c1) hm
    refine dd_sn 0 rfl rfl rfl rfl S28 ?_
    refine dd_sn 0 rfl rfl rfl rfl S28 ?_
    refine dd_sn 0 rfl rfl rfl rfl S28 ?_
    refine dd_sn 0 rfl rfl rfl rfl S28 ?_
    refine dd_sz rfl rfl rfl ?_
    refine dd_sz rfl rfl rfl ?_
    refine dd_sn 0 rfl rfl rfl rfl S28 ?_
    refine dd_hn 0 rfl rfl rfl rfl S28 (fun w hS => vv_pickF rfl rfl) ?_
    refine dd_hn 0 rfl rfl rfl rfl S28 (fun w hS => vv_move rfl) ?_
    refine dd_sn 0 rfl rfl rfl rfl S28 ?_
    refine dd_sn 0 rfl rfl rfl rfl S28 ?_
    refine dd_sz rfl rfl rfl ?_
    refine dd_sz rfl rfl rfl ?_
    refine dd_sn 0 rfl rfl rfl rfl S28 ?_
    refine dd_hn 0 rfl rfl rfl rfl S28 (fun w hS => vv_pickF rfl rfl) ?_
    refine dd_hn 0 rfl rfl rfl rfl S28 (fun w hS => vv_move rfl) ?_
    refine dd_sn 0 rfl rfl rfl rfl S28 ?_
    refine dd_sn 0 rfl rfl rfl rfl S28 ?_
    refine dd_sz rfl rfl rfl ?_
    refine dd_hn 0 rfl rfl rfl rfl S28 (fun w hS => vv_pickF rfl rfl) ?_
    refine dd_hn 0 rfl rfl rfl rfl S28 (fun w hS => vv_move rfl) ?_
    refine dd_sn 0 rfl rfl rfl rfl S28 ?_
    refine dd_sn 0 rfl rfl rfl rfl S28 ?_
    refine dd_sn 0 rfl rfl rfl rfl S28 ?_
    refine dd_hn 0 rfl rfl rfl rfl S28 (fun w hS => vv_pickF rfl rfl) ?_
    refine dd_hn 0 rfl rfl rfl rfl S28 (fun w hS => vv_assign rfl) ?_
    refine sd_done ?_
    refine sw_ret ?_
    have X46 : Gr w w13 := (Gr.trans (Gr.trans (Gr.md (Gr.trans (Gr.trans (Gr.md (Gr.trans (Gr.trans (Gr.md (Gr.trans (Gr.trans (Gr.trans (Gr.trans (Gr.refl w) Gw1) Gw2) Gw3) Gw4) Mw5) Gw6) Gw7) Mw8) Gw9) Gw10) Mw11) Gw12) Gw13)
    have hr := Option.some.inj hm
    subst hr
    refine ⟨_, _, rfl, res_1 rfl (rv_tmp rfl), ?_⟩
    exact ⟨rfl, X46⟩
end Go.Proofs.YtjdffpglgkefmaaGreat.Mx
