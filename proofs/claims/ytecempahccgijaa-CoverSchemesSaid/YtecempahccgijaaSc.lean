/- Walks that follow mirrors: Sc. Printed by mx.py. -/
import Derived.Test.YtecempahccgijaaCl
import Derived.Test.YtecempahccgijaaScM
set_option linter.unusedVariables false
set_option linter.unusedSimpArgs false
set_option maxRecDepth 100000
namespace Go.Proofs.Ytecempahccgijaa.Mx
open Go Go.RowKit Go.Sx
theorem en_31 : En Try.prog 31 := fun _ _ => by kernel_rfl
theorem en_32 : En Try.prog 32 := fun _ _ => by kernel_rfl
theorem en_33 : En Try.prog 33 := fun _ _ => by kernel_rfl
theorem en_34 : En Try.prog 34 := fun _ _ => by kernel_rfl
theorem en_35 : En Try.prog 35 := fun _ _ => by kernel_rfl
theorem en_36 : En Try.prog 36 := fun _ _ => by kernel_rfl
theorem en_37 : En Try.prog 37 := fun _ _ => by kernel_rfl

set_option maxHeartbeats 2000000 in
theorem law03_CoverSchemes_w (p0 : TScheme) (p1 : TSubset)  (r : Bool) (hm : law03_CoverSchemes p0 p1 = some r) (w : World)   :
    Calls Try.prog 5 [.agg (TScheme.cs p0).toArray, .agg (TSubset.cs p1).toArray].toArray w fun e w' => ∃ v, e = .returned v ∧ (v = .bool r ∧ Gr w w') := by
  unfold law03_CoverSchemes at hm
  refine calls_of_sw (R := fun v w' => v = .bool r ∧ Gr w w') 56 Try.func5 rfl rfl rfl ?_
  refine sw_seq ?_
  -- region 0 law.go:11
  refine sw_region [(0, 0), (1, 0), (2, 0)] rfl rfl rfl ?_
  refine sd_ev rfl rfl rfl (ev_box (cs := TScheme.cs p0) rfl rfl) ?_
  rintro _ w1 ⟨b1, rfl, hbw1, Bw1, Gw1⟩
  have z1 := Gw1.size
  have lt2 := Bw1.lt
  refine sd_ev rfl rfl rfl (ev_box (cs := TSubset.cs p1) rfl rfl) ?_
  rintro _ w2 ⟨b2, rfl, hbw2, Bw2, Gw2⟩
  have z3 := Gw2.size
  have lt4 := Bw2.lt
  refine sd_vv rfl rfl rfl (vv_assign rfl) ?_
  refine sd_done ?_
  refine sw_seq ?_
  -- region 1 law.go:12
  refine sw_region [(0, 0), (1, 0), (2, 0), (3, 0), (4, 0), (5, 0), (6, 0)] rfl rfl rfl ?_
  have B5 := (Bx.gr Bw1 Gw2)
  refine sd_vv rfl rfl rfl (vv_loadW agg_45 rfl B5 rfl) ?_
  have hb := bnd hm; clear hm; obtain ⟨x1, hx1, hm⟩ := hb
  refine sd_ev rfl rfl rfl (ev_call en_31 rfl (cover_Storage_w p0 _ hx1 _)) ?_
  rintro _ w3 ⟨rfl, Gw3⟩
  have z6 := Gw3.size
  refine sd_vv rfl rfl rfl (vv_move rfl) ?_
  refine sd_vv rfl rfl rfl (vv_extract rfl rfl) ?_
  refine sd_vv rfl rfl rfl (vv_extract rfl rfl) ?_
  refine sd_vv rfl rfl rfl (vv_assign rfl) ?_
  refine sd_vv rfl rfl rfl (vv_assign rfl) ?_
  refine sd_done ?_
  refine sw_seq ?_
  -- region 2 law.go:13
  refine sw_region [(0, 0), (1, 0), (2, 0), (3, 0), (4, 0), (5, 0), (6, 0)] rfl rfl rfl ?_
  have B7 := (Bx.gr B5 Gw3)
  refine sd_vv rfl rfl rfl (vv_loadW agg_45 rfl B7 rfl) ?_
  have hb := bnd hm; clear hm; obtain ⟨x2, hx2, hm⟩ := hb
  refine sd_ev rfl rfl rfl (ev_call en_32 rfl (ref03_Storage_w p0 _ hx2 _)) ?_
  rintro _ w4 ⟨rfl, Gw4⟩
  have z8 := Gw4.size
  refine sd_vv rfl rfl rfl (vv_move rfl) ?_
  refine sd_vv rfl rfl rfl (vv_extract rfl rfl) ?_
  refine sd_vv rfl rfl rfl (vv_extract rfl rfl) ?_
  refine sd_vv rfl rfl rfl (vv_assign rfl) ?_
  refine sd_vv rfl rfl rfl (vv_assign rfl) ?_
  refine sd_done ?_
  refine sw_seq ?_
  have X9 : Gr w w4 := (Gr.trans (Gr.trans (Gr.trans (Gr.trans (Gr.refl w) Gw1) Gw2) Gw3) Gw4)
  refine sw_joinD (β := Bool) [21, 22, 23, 24, 25, 26, 27, 28, 29, 30, 31, 32, 33, 34, 35] (fun a3 => [(35, .bool a3)]) (fun a3 wr => (law03_CoverSchemes_J1 p0 p1 a3 = some r) ∧ Kz [] w4 wr) ?_ ?_
  · clear hm; rintro a3 w5 ⟨hm, Kw5⟩
    have z10 := Kw5.size
    unfold law03_CoverSchemes_J1 at hm
    refine sw_cond rfl (fun c1 => ?_) (fun c1 => ?_)
    ·
      replace hm := cnd_t c1 hm
      refine sw_seq ?_
      -- region 4 law.go:15
      refine sw_region [(0, 0)] rfl rfl rfl ?_
      refine sd_vv rfl rfl rfl (vv_assign rfl) ?_
      refine sd_done ?_
      refine sw_ret ?_
      refine then_r ?_
      have X11 : Gr w w5 := (Gr.kz X9 Kw5)
      have hr := Option.some.inj hm
      subst hr
      refine ⟨_, _, rfl, res_1 rfl (rv_tmp rfl), ?_⟩
      exact ⟨rfl, X11⟩
    ·
      replace hm := cnd_f c1 hm
      refine sw_skip ?_
      refine then_n ?_
      refine sw_seq ?_
      -- region 5 law.go:17
      refine sw_region [(0, 0), (1, 0), (2, 0), (3, 0), (4, 0), (5, 0), (6, 0), (7, 0)] rfl rfl rfl ?_
      have B12 := (Bx.kz (Bx.gr B7 Gw4) Kw5)
      refine sd_vv rfl rfl rfl (vv_loadW agg_45 rfl B12 rfl) ?_
      have B13 := (Bx.kz (Bx.gr (Bx.gr Bw2 Gw3) Gw4) Kw5)
      refine sd_vv rfl rfl rfl (vv_loadW agg_47 rfl B13 rfl) ?_
      have hb := bnd hm; clear hm; obtain ⟨x4, hx4, hm⟩ := hb
      refine sd_ev rfl rfl rfl (ev_call en_35 rfl (cover_Members_w p0 p1 _ hx4 _)) ?_
      rintro _ w6 ⟨u6_r0_s, z6_r0_s, g6_r0_s, rfl, O6_r0_s, f6_r0_s, Gw6⟩
      have z14 := Gw6.size
      have lt15 := O6_r0_s.lth
      refine sd_vv rfl rfl rfl (vv_move rfl) ?_
      refine sd_vv rfl rfl rfl (vv_extract rfl rfl) ?_
      refine sd_vv rfl rfl rfl (vv_extract rfl rfl) ?_
      refine sd_vv rfl rfl rfl (vv_assign rfl) ?_
      refine sd_vv rfl rfl rfl (vv_assign rfl) ?_
      refine sd_done ?_
      refine sw_seq ?_
      -- region 6 law.go:18
      refine sw_region [(0, 0), (1, 0), (2, 0), (3, 0), (4, 0), (5, 0), (6, 0), (7, 0)] rfl rfl rfl ?_
      have B16 := (Bx.gr B12 Gw6)
      refine sd_vv rfl rfl rfl (vv_loadW agg_45 rfl B16 rfl) ?_
      have B17 := (Bx.gr B13 Gw6)
      refine sd_vv rfl rfl rfl (vv_loadW agg_47 rfl B17 rfl) ?_
      have hb := bnd hm; clear hm; obtain ⟨x5, hx5, hm⟩ := hb
      refine sd_ev rfl rfl rfl (ev_call en_36 rfl (ref03_Members_w p0 p1 _ hx5 _)) ?_
      rintro _ w7 ⟨u7_r0_s, z7_r0_s, g7_r0_s, rfl, O7_r0_s, f7_r0_s, Gw7⟩
      have z18 := Gw7.size
      have lt19 := O7_r0_s.lth
      refine sd_vv rfl rfl rfl (vv_move rfl) ?_
      refine sd_vv rfl rfl rfl (vv_extract rfl rfl) ?_
      refine sd_vv rfl rfl rfl (vv_extract rfl rfl) ?_
      refine sd_vv rfl rfl rfl (vv_assign rfl) ?_
      refine sd_vv rfl rfl rfl (vv_assign rfl) ?_
      refine sd_done ?_
      refine sw_seq ?_
      -- region 7 law.go:19
      refine sw_region [(0, 0), (1, 0), (2, 0), (3, 0), (4, 0), (5, 0), (6, 0), (7, 0), (8, 0)] rfl rfl rfl ?_
      refine sd_vv rfl rfl rfl (vv_move rfl) ?_
      refine sd_vv rfl rfl rfl (vv_move rfl) ?_
      have B20 := (Own.gr O6_r0_s Gw7)
      have hb := bnd hm; clear hm; obtain ⟨x6, hx6, hm⟩ := hb
      refine sd_ev rfl rfl rfl (ev_call en_37 rfl (ref03_SameInts_w x4.1 x5.1 _ _ _ _ _ _ _ _ _ hx6 _ (Own.rd B20) (Own.rd O7_r0_s))) ?_
      rintro _ w8 ⟨rfl, Gw8⟩
      have z21 := Gw8.size
      refine sd_split rfl rfl rfl (vv_move rfl) (fun c2 => ?_) (fun c2 => ?_)
      ·
        replace hm := cnd_t c2 hm
        refine sd_vv rfl rfl rfl (vv_move rfl) ?_
        refine sd_vv rfl rfl rfl (vv_move rfl) ?_
        refine sd_vv rfl rfl rfl (vv_eql (a := x4.2) (b := x5.2) rfl rfl) ?_
        refine sd_vv rfl rfl rfl (vv_pickT rfl rfl) ?_
        refine sd_vv rfl rfl rfl (vv_assign rfl) ?_
        refine sd_done ?_
        refine sw_ret ?_
        have X22 : Gr w w8 := (Gr.trans (Gr.trans (Gr.trans (Gr.kz X9 Kw5) Gw6) Gw7) Gw8)
        have hr := Option.some.inj hm
        subst hr
        refine ⟨_, _, rfl, res_1 rfl (rv_tmp rfl), ?_⟩
        exact ⟨rfl, X22⟩
      ·
        replace hm := cnd_f c2 hm
        refine sd_skip rfl rfl rfl ?_
        refine sd_skip rfl rfl rfl ?_
        refine sd_skip rfl rfl rfl ?_
        refine sd_vv rfl rfl rfl (vv_pickF rfl rfl) ?_
        refine sd_vv rfl rfl rfl (vv_assign rfl) ?_
        refine sd_done ?_
        refine sw_ret ?_
        have X23 : Gr w w8 := (Gr.trans (Gr.trans (Gr.trans (Gr.kz X9 Kw5) Gw6) Gw7) Gw8)
        have hr := Option.some.inj hm
        subst hr
        refine ⟨_, _, rfl, res_1 rfl (rv_tmp rfl), ?_⟩
        exact ⟨rfl, X23⟩
  ·
    -- region 3 law.go:14 DRAWS
    refine sw_drawN [([])] [] (.leaf [(0, 10), (1, 10), (2, 10), (3, 10), (4, 10), (5, 10), (6, 10), (7, 10), (8, 10), (9, 10), (11, 10), (10, 0), (12, 0), (13, 10), (14, 10)]) (by kernel_rfl) (by kernel_rfl) rfl (by kernel_rfl) ?_
    intro w9 Gw9 zw9
    refine sdz_leaf ?_
    refine dd_hn 0 rfl rfl rfl rfl (Kp.refl ([]) w9) (fun w hS => vv_move rfl) ?_
    refine dd_hn 0 rfl rfl rfl rfl (Kp.refl ([]) w9) (fun w hS => vv_move rfl) ?_
    refine dd_hn 0 rfl rfl rfl rfl (Kp.refl ([]) w9) (fun w hS => vv_neq (a := x1.1) (b := x2.1) rfl rfl) ?_
    refine dd_pn 0 rfl rfl rfl rfl (Kp.refl ([]) w9) (fun w hS => vv_move rfl) (fun c3 => ?_) (fun c3 => ?_)
    ·
      replace hm := ite_t (of_decide_eq_true c3) hm
      refine dd_sn 0 rfl rfl rfl rfl (Kp.refl ([]) w9) ?_
      refine dd_sn 0 rfl rfl rfl rfl (Kp.refl ([]) w9) ?_
      refine dd_sn 0 rfl rfl rfl rfl (Kp.refl ([]) w9) ?_
      refine dd_hn 0 rfl rfl rfl rfl (Kp.refl ([]) w9) (fun w hS => vv_pickT rfl rfl) ?_
      refine dd_hn 0 rfl rfl rfl rfl (Kp.refl ([]) w9) (fun w hS => vv_move rfl) ?_
      refine dd_sn 0 rfl rfl rfl rfl (Kp.refl ([]) w9) ?_
      refine dd_sn 0 rfl rfl rfl rfl (Kp.refl ([]) w9) ?_
      refine dd_sz rfl rfl rfl ?_
      refine dd_sz rfl rfl rfl ?_
      refine dd_sn 0 rfl rfl rfl rfl (Kp.refl ([]) w9) ?_
      refine dd_hn 0 rfl rfl rfl rfl (Kp.refl ([]) w9) (fun w hS => vv_pickT rfl rfl) ?_
      refine sd_nil ?_
      have K_24 : Kz [] w4 w9 := (Kz.gr (Kz.refl _ _) Gw9)
      refine ⟨rfl, true, ?_, hm, K_24⟩
      repeat' first | exact trivial | refine ⟨rfl, ?_⟩
    ·
      replace hm := ite_f (of_decide_eq_false c3) hm
      refine dd_hn 0 rfl rfl rfl rfl (Kp.refl ([]) w9) (fun w hS => vv_move rfl) ?_
      refine dd_hn 0 rfl rfl rfl rfl (Kp.refl ([]) w9) (fun w hS => vv_move rfl) ?_
      refine dd_hn 0 rfl rfl rfl rfl (Kp.refl ([]) w9) (fun w hS => vv_neq (a := x1.2) (b := x2.2) rfl rfl) ?_
      refine dd_hn 0 rfl rfl rfl rfl (Kp.refl ([]) w9) (fun w hS => vv_pickF rfl rfl) ?_
      refine dd_pn 0 rfl rfl rfl rfl (Kp.refl ([]) w9) (fun w hS => vv_move rfl) (fun c4 => ?_) (fun c4 => ?_)
      ·
        replace hm := ite_t (of_decide_eq_true c4) hm
        refine dd_sn 0 rfl rfl rfl rfl (Kp.refl ([]) w9) ?_
        refine dd_sn 0 rfl rfl rfl rfl (Kp.refl ([]) w9) ?_
        refine dd_sz rfl rfl rfl ?_
        refine dd_sz rfl rfl rfl ?_
        refine dd_sn 0 rfl rfl rfl rfl (Kp.refl ([]) w9) ?_
        refine dd_hn 0 rfl rfl rfl rfl (Kp.refl ([]) w9) (fun w hS => vv_pickT rfl rfl) ?_
        refine sd_nil ?_
        have K_25 : Kz [] w4 w9 := (Kz.gr (Kz.refl _ _) Gw9)
        refine ⟨rfl, true, ?_, hm, K_25⟩
        repeat' first | exact trivial | refine ⟨rfl, ?_⟩
      ·
        replace hm := ite_f (of_decide_eq_false c4) hm
        have B26 := (Bx.gr (Bx.gr B7 Gw4) Gw9)
        refine dd_hn 0 rfl rfl rfl rfl (Kp.refl ([]) w9) (fun w hS => vv_loadW agg_45 rfl (Bx.kp B26 hS) rfl) ?_
        refine dd_hn 0 rfl rfl rfl rfl (Kp.refl ([]) w9) (fun w hS => vv_loadW agg_45 rfl (Bx.kp B26 hS) rfl) ?_
        have hb := bnd hm; clear hm; obtain ⟨x7, hx7, hm⟩ := hb
        refine dd_z [] rfl rfl rfl (ev_call en_33 rfl (cover_Check_w p0 _ hx7 _)) ⟨fun _ => tk0, trivial⟩ ?_
        rintro _ w10 ⟨rfl, Gw10⟩
        have z27 := Gw10.size
        refine ⟨Kz.ofGr Gw10, ?_⟩
        have hb := bnd hm; clear hm; obtain ⟨x8, hx8, hm⟩ := hb
        refine dd_z [] rfl rfl rfl (ev_call en_34 rfl (ref03_Check_w p0 _ hx8 _)) ⟨fun _ => tk0, trivial⟩ ?_
        rintro _ w11 ⟨rfl, Gw11⟩
        have z28 := Gw11.size
        refine ⟨Kz.ofGr Gw11, ?_⟩
        have S29 := (Kp.gr (Kp.gr (Kp.refl ([]) w9) Gw10) Gw11)
        refine dd_hn 0 rfl rfl rfl rfl S29 (fun w hS => vv_neq (a := x7) (b := x8) rfl rfl) ?_
        refine dd_hn 0 rfl rfl rfl rfl S29 (fun w hS => vv_pickF rfl rfl) ?_
        refine sd_nil ?_
        have K_30 : Kz [] w4 w11 := (Kz.gr (Kz.gr (Kz.gr (Kz.refl _ _) Gw9) Gw10) Gw11)
        refine ⟨rfl, (decide (x7 ≠ x8)), ?_, hm, K_30⟩
        repeat' first | exact trivial | refine ⟨rfl, ?_⟩
end Go.Proofs.Ytecempahccgijaa.Mx
