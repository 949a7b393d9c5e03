/- Walks that follow mirrors: Kw. Printed by mx.py. -/
import Derived.Test.YtecempahccgijaaWKw
import Derived.Test.YtecempahccgijaaKwM
set_option linter.unusedVariables false
set_option linter.unusedSimpArgs false
set_option maxRecDepth 100000
namespace Go.Proofs.Ytecempahccgijaa.Mx
open Go Go.RowKit Go.Sx
theorem en_56 : En Try.prog 56 := fun _ _ => by kernel_rfl
theorem en_59 : En Try.prog 59 := fun _ _ => by kernel_rfl
theorem en_57 : En Try.prog 57 := fun _ _ => by kernel_rfl
theorem en_62 : En Try.prog 62 := fun _ _ => by kernel_rfl
theorem en_61 : En Try.prog 61 := fun _ _ => by kernel_rfl

set_option maxHeartbeats 2000000 in
theorem law03_CoverKnows_w (p0 : TScheme) (p1 : List Int) (p2 : TSubset) (vp1 : Value) (zp1 gp1 op1 : Nat) (r : Bool) (hm : law03_CoverKnows p0 p1 p2 = some r) (w : World) (hp1 : Rd w zp1 gp1 op1 1 vp1 (p1.map ic))  :
    Calls Try.prog 16 [.agg (TScheme.cs p0).toArray, vp1, .agg (TSubset.cs p2).toArray].toArray w fun e w' => ∃ v, e = .returned v ∧ (v = .bool r ∧ Gr w w') := by
  have lt1 := hp1.lth
  unfold law03_CoverKnows at hm
  refine calls_of_sw (R := fun v w' => v = .bool r ∧ Gr w w') 80 Try.func16 rfl rfl rfl ?_
  refine sw_seq ?_
  -- region 0 outright.go:211
  refine sw_region [(0, 0), (1, 0), (2, 0)] rfl rfl rfl ?_
  refine sd_ev rfl rfl rfl (ev_box (cs := TScheme.cs p0) rfl rfl) ?_
  rintro _ w1 ⟨b1, rfl, hbw1, Bw1, Gw1⟩
  have z2 := Gw1.size
  have lt3 := Bw1.lt
  refine sd_ev rfl rfl rfl (ev_box (cs := TSubset.cs p2) rfl rfl) ?_
  rintro _ w2 ⟨b2, rfl, hbw2, Bw2, Gw2⟩
  have z4 := Gw2.size
  have lt5 := Bw2.lt
  refine sd_vv rfl rfl rfl (vv_assign rfl) ?_
  refine sd_done ?_
  refine sw_seq ?_
  -- region 1 outright.go:212
  refine sw_region [(0, 0), (1, 0)] rfl rfl rfl ?_
  have hb := bnd hm; clear hm; obtain ⟨x1, hx1, hm⟩ := hb
  refine sd_ev rfl rfl rfl (ev_call en_56 rfl (law03_alive_w _ hx1 _)) ?_
  rintro _ w3 ⟨rfl, Gw3⟩
  have z6 := Gw3.size
  refine sd_vv rfl rfl rfl (vv_assign rfl) ?_
  refine sd_done ?_
  refine sw_seq ?_
  -- region 2 outright.go:213
  refine sw_region [(0, 0), (1, 0), (2, 0), (3, 0), (4, 0), (5, 0), (6, 0), (7, 0), (8, 0)] rfl rfl rfl ?_
  have B7 := (Bx.gr (Bx.gr Bw1 Gw2) Gw3)
  refine sd_vv rfl rfl rfl (vv_loadW agg_45 rfl B7 rfl) ?_
  refine sd_vv rfl rfl rfl (vv_move rfl) ?_
  have B8 := (Bx.gr Bw2 Gw3)
  refine sd_vv rfl rfl rfl (vv_loadW agg_47 rfl B8 rfl) ?_
  have B9 := (Rd.gr (Rd.gr (Rd.gr hp1 Gw1) Gw2) Gw3)
  have hb := bnd hm; clear hm; obtain ⟨x2, hx2, hm⟩ := hb
  refine sd_ev rfl rfl rfl (ev_call en_52 rfl (cover_Knows_w p0 p1 p2 _ _ _ _ _ hx2 _ B9)) ?_
  rintro _ w4 ⟨rfl, Gw4⟩
  have z10 := Gw4.size
  refine sd_vv rfl rfl rfl (vv_move rfl) ?_
  refine sd_vv rfl rfl rfl (vv_extract rfl rfl) ?_
  refine sd_vv rfl rfl rfl (vv_extract rfl rfl) ?_
  refine sd_vv rfl rfl rfl (vv_assign rfl) ?_
  refine sd_vv rfl rfl rfl (vv_assign rfl) ?_
  refine sd_done ?_
  refine sw_seq ?_
  have X11 : Gr w w4 := (Gr.trans (Gr.trans (Gr.trans (Gr.trans (Gr.refl w) Gw1) Gw2) Gw3) Gw4)
  refine sw_joinD (β := Bool) [22, 23, 24, 25, 26, 27, 28, 29, 30, 31, 32, 33, 34, 35, 36, 37] (fun a3 => [(37, .bool a3)]) (fun a3 wr => (law03_CoverKnows_J1 p0 p1 p2 x1 x2 a3 = some r) ∧ Kz [] w4 wr) ?_ ?_
  · clear hm; rintro a3 w5 ⟨hm, Kw5⟩
    have z12 := Kw5.size
    unfold law03_CoverKnows_J1 at hm
    refine sw_cond rfl (fun c1 => ?_) (fun c1 => ?_)
    ·
      replace hm := cnd_t c1 hm
      refine sw_seq ?_
      -- region 4 outright.go:215
      refine sw_region [(0, 0), (1, 0), (2, 0), (3, 0), (4, 0), (5, 0), (6, 0), (7, 0), (8, 0), (9, 0)] rfl rfl rfl ?_
      refine sd_vv rfl rfl rfl (vv_move rfl) ?_
      refine sd_split rfl rfl rfl (vv_move rfl) (fun c2 => ?_) (fun c2 => ?_)
      ·
        replace hm := cnd_t c2 hm
        refine sd_vv rfl rfl rfl (vv_move rfl) ?_
        refine sd_vv rfl rfl rfl (vv_not rfl) ?_
        refine sd_vv rfl rfl rfl (vv_pickT rfl rfl) ?_
        refine sd_split rfl rfl rfl (vv_move rfl) (fun c3 => ?_) (fun c3 => ?_)
        ·
          replace hm := cnd_t c3 hm
          refine sd_vv rfl rfl rfl (vv_move rfl) ?_
          refine sd_vv rfl rfl rfl (vv_neq (a := x2.2) (b := 0) rfl rfl) ?_
          refine sd_vv rfl rfl rfl (vv_pickT rfl rfl) ?_
          refine sd_vv rfl rfl rfl (vv_assign rfl) ?_
          refine sd_done ?_
          refine sw_ret ?_
          refine then_r ?_
          have X13 : Gr w w5 := (Gr.kz X11 Kw5)
          have hr := Option.some.inj hm
          subst hr
          refine ⟨_, _, rfl, res_1 rfl (rv_tmp rfl), ?_⟩
          exact ⟨rfl, X13⟩
        ·
          replace hm := cnd_f c3 hm
          refine sd_skip rfl rfl rfl ?_
          refine sd_skip rfl rfl rfl ?_
          refine sd_vv rfl rfl rfl (vv_pickF rfl rfl) ?_
          refine sd_vv rfl rfl rfl (vv_assign rfl) ?_
          refine sd_done ?_
          refine sw_ret ?_
          refine then_r ?_
          have X14 : Gr w w5 := (Gr.kz X11 Kw5)
          have hr := Option.some.inj hm
          subst hr
          refine ⟨_, _, rfl, res_1 rfl (rv_tmp rfl), ?_⟩
          exact ⟨rfl, X14⟩
      ·
        replace hm := cnd_f c2 hm
        refine sd_skip rfl rfl rfl ?_
        refine sd_skip rfl rfl rfl ?_
        refine sd_vv rfl rfl rfl (vv_pickF rfl rfl) ?_
        refine sd_vv rfl rfl rfl (vv_move rfl) ?_
        refine sd_skip rfl rfl rfl ?_
        refine sd_skip rfl rfl rfl ?_
        refine sd_vv rfl rfl rfl (vv_pickF rfl rfl) ?_
        refine sd_vv rfl rfl rfl (vv_assign rfl) ?_
        refine sd_done ?_
        refine sw_ret ?_
        refine then_r ?_
        have X15 : Gr w w5 := (Gr.kz X11 Kw5)
        have hr := Option.some.inj hm
        subst hr
        refine ⟨_, _, rfl, res_1 rfl (rv_tmp rfl), ?_⟩
        exact ⟨rfl, X15⟩
    ·
      replace hm := cnd_f c1 hm
      refine sw_skip ?_
      refine then_n ?_
      refine sw_seq ?_
      -- region 5 outright.go:217
      refine sw_region [(0, 0)] rfl rfl rfl ?_
      refine sd_vv rfl rfl rfl (vv_assign rfl) ?_
      refine sd_done ?_
      refine sw_seq ?_
      refine sw_seq ?_
      -- region 6 outright.go:218
      refine sw_region [(0, 0)] rfl rfl rfl ?_
      refine sd_vv rfl rfl rfl (vv_assign rfl) ?_
      refine sd_done ?_
      refine sw_block ?_
      have X16 : Gr w w5 := (Gr.kz X11 Kw5)
      have B17 := (Rd.kz (Rd.gr B9 Gw4) Kw5)
      refine sw_loopD (α := Nat × Bool × Int) [6, 10, 11, 12, 13, 47, 48, 49, 50, 51, 52, 53, 54, 55, 56, 57, 58, 59, 60, 61, 62, 63, 64, 65, 66, 67, 68, 69] (fun ⟨n2, a6, a7⟩ => [(6, .bool false), (10, .bool a6), (11, .int .i64 a7)]) (fun ⟨n2, a6, a7⟩ wr => (fixN (law03_CoverKnows_L2 p0 p1 p2 x1 x2) n2 (a6, a7) = some r) ∧ Kz [] w5 wr) (fun ⟨n2, a6, a7⟩ => n2) ⟨FUEL, false, 0⟩ ?_ ?_ ?_
      · repeat' first | exact trivial | refine ⟨rfl, ?_⟩
      · exact ⟨hm, Kz.refl _ _⟩
      · clear hm; rintro ⟨n2, a6, a7⟩ w6 ⟨hm, Kw6⟩
        have z18 := Kw6.size
        have hb := fix_succ hm; clear hm; obtain ⟨n2, rfl, hm⟩ := hb
        generalize hrec2 : fixN (law03_CoverKnows_L2 p0 p1 p2 x1 x2) n2 = rec2 at hm
        unfold law03_CoverKnows_L2 at hm
        try dsimp only at hm
        refine sw_seq ?_
        refine sw_seq ?_
        -- region 7 outright.go:218
        refine sw_region [(0, 0), (1, 0), (2, 0), (3, 0)] rfl rfl rfl ?_
        refine sd_vv rfl rfl rfl (vv_move rfl) ?_
        refine sd_vv rfl rfl rfl (vv_move rfl) ?_
        have B19 := (Rd.kz B17 Kw6)
        refine sd_vv rfl rfl rfl (vv_lenT (l := p1) (c := ic) Try.underlying61 rfl B19) ?_
        refine sd_vv rfl rfl rfl (vv_lss (a := a7) (b := (p1.length : Int)) rfl rfl) ?_
        refine sd_done ?_
        refine sw_cond rfl (fun c4 => ?_) (fun c4 => ?_)
        ·
          replace hm := ite_t (of_decide_eq_true c4) hm
          refine sw_skip ?_
          refine then_n ?_
          refine sw_seq ?_
          refine sw_block ?_
          refine sw_seq ?_
          -- region 9 outright.go:219 DRAWS
          refine sw_drawN [([])] [] (.leaf [(0, 10), (1, 10), (3, 10), (4, 10), (5, 10), (6, 10), (2, 0), (7, 0), (8, 10), (9, 10), (10, 10), (11, 10), (12, 10)]) (by kernel_rfl) (by kernel_rfl) rfl (by kernel_rfl) ?_
          intro w7 Gw7 zw7
          refine sdz_leaf ?_
          have B20 := (Bx.gr (Bx.kz (Bx.kz (Bx.gr B7 Gw4) Kw5) Kw6) Gw7)
          refine dd_hn 0 rfl rfl rfl rfl (Kp.refl ([]) w7) (fun w hS => vv_loadW agg_45 rfl (Bx.kp B20 hS) rfl) ?_
          have B21 := (Bx.gr (Bx.kz (Bx.kz (Bx.gr B8 Gw4) Kw5) Kw6) Gw7)
          refine dd_hn 0 rfl rfl rfl rfl (Kp.refl ([]) w7) (fun w hS => vv_loadW agg_47 rfl (Bx.kp B21 hS) rfl) ?_
          refine dd_hn 0 rfl rfl rfl rfl (Kp.refl ([]) w7) (fun w hS => vv_move rfl) ?_
          refine dd_hn 0 rfl rfl rfl rfl (Kp.refl ([]) w7) (fun w hS => vv_move rfl) ?_
          have hb := bnd hm; clear hm; obtain ⟨y8, hy8, hm⟩ := hb
          have B22 := (Rd.gr B19 Gw7)
          refine dd_hn 0 rfl rfl rfl rfl (Kp.refl ([]) w7) (fun w hS => vv_ixT (i := a7) Try.underlying61 (one_3).siz rfl (Rd.kp B22 hS) rfl hy8) ?_
          refine dd_hn 0 rfl rfl rfl rfl (Kp.refl ([]) w7) (fun w hS => vv_el1T (q := 0) (u := .int .i64 y8) one_3 rfl (Rd.kp B22 hS) hy8 (by first | rfl | omega) rfl) ?_
          refine dd_z [] rfl rfl rfl (ev_litT [p2] TSubset.cs bsl_48_1 rfl rfl (ws_of rfl) rfl rfl rfl) ⟨fun _ => tk0, trivial⟩ ?_
          rintro vw8 w8 ⟨gw8, hbw8, Ow8, Gw8⟩
          have z23 := Gw8.size
          have lt24 := Ow8.lth
          refine ⟨Kz.ofGr Gw8, ?_⟩
          have hb := bnd hm; clear hm; obtain ⟨x9, hx9, hm⟩ := hb
          refine dd_z [] rfl rfl rfl (ev_call en_61 rfl (law03_member_w p0 [p2] y8 _ _ _ _ _ hx9 _ (Own.rd Ow8))) ⟨fun _ => tk0, trivial⟩ ?_
          rintro _ w9 ⟨rfl, Gw9⟩
          have z25 := Gw9.size
          refine ⟨Kz.ofGr Gw9, ?_⟩
          have S26 := (Kp.gr (Kp.gr (Kp.refl ([]) w7) Gw8) Gw9)
          refine dd_hn 0 rfl rfl rfl rfl S26 (fun w hS => vv_move rfl) ?_
          refine dd_hn 0 rfl rfl rfl rfl S26 (fun w hS => vv_extract rfl rfl) ?_
          refine dd_hn 0 rfl rfl rfl rfl S26 (fun w hS => vv_extract rfl rfl) ?_
          refine dd_hn 0 rfl rfl rfl rfl S26 (fun w hS => vv_assign rfl) ?_
          refine dd_hn 0 rfl rfl rfl rfl S26 (fun w hS => vv_assign rfl) ?_
          refine sd_done ?_
          refine sw_seq ?_
          refine sw_seq ?_
          -- region 10 outright.go:220
          refine sw_region [(0, 0), (1, 0)] rfl rfl rfl ?_
          refine sd_vv rfl rfl rfl (vv_move rfl) ?_
          refine sd_vv rfl rfl rfl (vv_not rfl) ?_
          refine sd_done ?_
          refine sw_cond rfl (fun c5 => ?_) (fun c5 => ?_)
          ·
            replace hm := cnd_t c5 hm
            refine sw_seq ?_
            -- region 11 outright.go:221
            refine sw_region [(0, 0)] rfl rfl rfl ?_
            refine sd_vv rfl rfl rfl (vv_assign rfl) ?_
            refine sd_done ?_
            refine sw_ret ?_
            refine then_r ?_
            refine block_r ?_
            refine then_r ?_
            refine then_r ?_
            refine block_r ?_
            refine then_r ?_
            have X27 : Gr w w9 := (Gr.trans (Gr.trans (Gr.trans (Gr.kz X16 Kw6) Gw7) Gw8) Gw9)
            have hr := Option.some.inj hm
            subst hr
            refine ⟨_, _, rfl, res_1 rfl (rv_tmp rfl), ?_⟩
            exact ⟨rfl, X27⟩
          ·
            replace hm := cnd_f c5 hm
            refine sw_skip ?_
            refine then_n ?_
            -- region 12 outright.go:223
            refine sw_region [(0, 0), (1, 0), (2, 0), (3, 0), (4, 0)] rfl rfl rfl ?_
            refine sd_vv rfl rfl rfl (vv_move rfl) ?_
            refine sd_split rfl rfl rfl (vv_move rfl) (fun c6 => ?_) (fun c6 => ?_)
            ·
              replace hm := cnd_t c6 hm
              refine sd_skip rfl rfl rfl ?_
              refine sd_vv rfl rfl rfl (vv_pickT rfl rfl) ?_
              refine sd_vv rfl rfl rfl (vv_assign rfl) ?_
              refine sd_nil ?_
              refine block_n ?_
              refine then_n ?_
              -- region 8 outright.go:218
              refine sw_region [(0, 0), (1, 0), (2, 0)] rfl rfl rfl ?_
              refine sd_vv rfl rfl rfl (vv_move rfl) ?_
              refine sd_vv rfl rfl rfl (vv_add (k := .i64) (a := a7) (b := 1) rfl rfl) ?_
              refine sd_vv rfl rfl rfl (vv_assign rfl) ?_
              refine sd_nil ?_
              have K_28 : Kz [] w5 w9 := (Kz.gr (Kz.gr (Kz.gr Kw6 Gw7) Gw8) Gw9)
              subst hrec2
              refine ⟨rfl, ⟨n2, true, w64 (a7 + 1)⟩, ?_, ⟨hm, K_28⟩, Nat.lt_succ_self _⟩
              repeat' first | exact trivial | refine ⟨rfl, ?_⟩
            ·
              replace hm := cnd_f c6 hm
              refine sd_vv rfl rfl rfl (vv_move rfl) ?_
              refine sd_vv rfl rfl rfl (vv_pickF rfl rfl) ?_
              refine sd_vv rfl rfl rfl (vv_assign rfl) ?_
              refine sd_nil ?_
              refine block_n ?_
              refine then_n ?_
              -- region 8 outright.go:218
              refine sw_region [(0, 0), (1, 0), (2, 0)] rfl rfl rfl ?_
              refine sd_vv rfl rfl rfl (vv_move rfl) ?_
              refine sd_vv rfl rfl rfl (vv_add (k := .i64) (a := a7) (b := 1) rfl rfl) ?_
              refine sd_vv rfl rfl rfl (vv_assign rfl) ?_
              refine sd_nil ?_
              have K_29 : Kz [] w5 w9 := (Kz.gr (Kz.gr (Kz.gr Kw6 Gw7) Gw8) Gw9)
              subst hrec2
              refine ⟨rfl, ⟨n2, x9.1, w64 (a7 + 1)⟩, ?_, ⟨hm, K_29⟩, Nat.lt_succ_self _⟩
              repeat' first | exact trivial | refine ⟨rfl, ?_⟩
        ·
          replace hm := ite_f (of_decide_eq_false c4) hm
          refine sw_exit ?_
          refine then_x ?_
          refine then_x ?_
          refine block_x ?_
          refine then_n ?_
          refine sw_seq ?_
          -- region 13 outright.go:225
          refine sw_region [(0, 0), (1, 0), (2, 0), (3, 0), (4, 0), (5, 0), (6, 0), (7, 0), (8, 0), (9, 0), (10, 0)] rfl rfl rfl ?_
          refine sd_vv rfl rfl rfl (vv_move rfl) ?_
          refine sd_split rfl rfl rfl (vv_move rfl) (fun c7 => ?_) (fun c7 => ?_)
          ·
            replace hm := cnd_t c7 hm
            refine sd_vv rfl rfl rfl (vv_move rfl) ?_
            refine sd_vv rfl rfl rfl (vv_eql (a := x2.2) (b := 0) rfl rfl) ?_
            refine sd_vv rfl rfl rfl (vv_pickT rfl rfl) ?_
            refine sd_split rfl rfl rfl (vv_move rfl) (fun c8 => ?_) (fun c8 => ?_)
            ·
              replace hm := ite_t (of_decide_eq_true c8) hm
              refine sd_vv rfl rfl rfl (vv_move rfl) ?_
              refine sd_vv rfl rfl rfl (vv_move rfl) ?_
              refine sd_vv rfl rfl rfl (vv_eqlL Try.underlying4 rfl rfl) ?_
              refine sd_vv rfl rfl rfl (vv_pickT rfl rfl) ?_
              refine sd_vv rfl rfl rfl (vv_assign rfl) ?_
              refine sd_done ?_
              refine sw_ret ?_
              have X30 : Gr w w6 := (Gr.kz X16 Kw6)
              have hr := Option.some.inj hm
              subst hr
              refine ⟨_, _, rfl, res_1 rfl (rv_tmp rfl), ?_⟩
              exact ⟨rfl, X30⟩
            ·
              replace hm := ite_f (of_decide_eq_false c8) hm
              refine sd_skip rfl rfl rfl ?_
              refine sd_skip rfl rfl rfl ?_
              refine sd_skip rfl rfl rfl ?_
              refine sd_vv rfl rfl rfl (vv_pickF rfl rfl) ?_
              refine sd_vv rfl rfl rfl (vv_assign rfl) ?_
              refine sd_done ?_
              refine sw_ret ?_
              have X31 : Gr w w6 := (Gr.kz X16 Kw6)
              have hr := Option.some.inj hm
              subst hr
              refine ⟨_, _, rfl, res_1 rfl (rv_tmp rfl), ?_⟩
              exact ⟨rfl, X31⟩
          ·
            replace hm := cnd_f c7 hm
            refine sd_skip rfl rfl rfl ?_
            refine sd_skip rfl rfl rfl ?_
            refine sd_vv rfl rfl rfl (vv_pickF rfl rfl) ?_
            refine sd_vv rfl rfl rfl (vv_move rfl) ?_
            refine sd_skip rfl rfl rfl ?_
            refine sd_skip rfl rfl rfl ?_
            refine sd_skip rfl rfl rfl ?_
            refine sd_vv rfl rfl rfl (vv_pickF rfl rfl) ?_
            refine sd_vv rfl rfl rfl (vv_assign rfl) ?_
            refine sd_done ?_
            refine sw_ret ?_
            have X32 : Gr w w6 := (Gr.kz X16 Kw6)
            have hr := Option.some.inj hm
            subst hr
            refine ⟨_, _, rfl, res_1 rfl (rv_tmp rfl), ?_⟩
            exact ⟨rfl, X32⟩
  ·
    -- region 3 outright.go:214
    refine sw_region [(0, 0), (1, 0), (2, 0), (3, 0), (4, 0), (5, 0), (6, 0), (7, 0), (8, 0), (9, 0), (10, 0), (11, 0), (12, 0), (13, 0), (14, 0), (15, 0)] rfl rfl rfl ?_
    have B33 := (Bx.gr B7 Gw4)
    refine sd_vv rfl rfl rfl (vv_loadW agg_45 rfl B33 rfl) ?_
    have hb := bnd hm; clear hm; obtain ⟨x10, hx10, hm⟩ := hb
    refine sd_ev rfl rfl rfl (ev_call en_59 rfl (ref03_Valid_w p0 _ hx10 _)) ?_
    rintro _ w10 ⟨rfl, Gw10⟩
    have z34 := Gw10.size
    refine sd_vv rfl rfl rfl (vv_not rfl) ?_
    refine sd_split rfl rfl rfl (vv_move rfl) (fun c9 => ?_) (fun c9 => ?_)
    ·
      replace hm := cnd_t c9 hm
      refine sd_skip rfl rfl rfl ?_
      refine sd_skip rfl rfl rfl ?_
      refine sd_skip rfl rfl rfl ?_
      refine sd_skip rfl rfl rfl ?_
      refine sd_skip rfl rfl rfl ?_
      refine sd_vv rfl rfl rfl (vv_pickT rfl rfl) ?_
      refine sd_vv rfl rfl rfl (vv_move rfl) ?_
      refine sd_skip rfl rfl rfl ?_
      refine sd_skip rfl rfl rfl ?_
      refine sd_skip rfl rfl rfl ?_
      refine sd_skip rfl rfl rfl ?_
      refine sd_vv rfl rfl rfl (vv_pickT rfl rfl) ?_
      refine sd_nil ?_
      have K_35 : Kz [] w4 w10 := (Kz.gr (Kz.refl _ _) Gw10)
      refine ⟨rfl, true, ?_, hm, K_35⟩
      repeat' first | exact trivial | refine ⟨rfl, ?_⟩
    ·
      replace hm := cnd_f c9 hm
      refine sd_vv rfl rfl rfl (vv_fieldAddr fa_45_1 rfl) ?_
      have B36 := (Bx.gr B33 Gw10)
      refine sd_vv rfl rfl rfl (vv_load1 (v := .int .i64 p0.Depth) one_3 rfl B36 rfl) ?_
      refine sd_vv rfl rfl rfl (vv_move rfl) ?_
      have B37 := (Rd.gr (Rd.gr B9 Gw4) Gw10)
      have hb := bnd hm; clear hm; obtain ⟨x11, hx11, hm⟩ := hb
      refine sd_ev rfl rfl rfl (ev_call en_57 rfl (ref03_IsList_w p0.Depth p1 _ _ _ _ _ hx11 _ B37)) ?_
      rintro _ w11 ⟨rfl, Gw11⟩
      have z38 := Gw11.size
      refine sd_vv rfl rfl rfl (vv_not rfl) ?_
      refine sd_vv rfl rfl rfl (vv_pickF rfl rfl) ?_
      refine sd_split rfl rfl rfl (vv_move rfl) (fun c10 => ?_) (fun c10 => ?_)
      ·
        replace hm := cnd_t c10 hm
        refine sd_skip rfl rfl rfl ?_
        refine sd_skip rfl rfl rfl ?_
        refine sd_skip rfl rfl rfl ?_
        refine sd_skip rfl rfl rfl ?_
        refine sd_vv rfl rfl rfl (vv_pickT rfl rfl) ?_
        refine sd_nil ?_
        have K_39 : Kz [] w4 w11 := (Kz.gr (Kz.gr (Kz.refl _ _) Gw10) Gw11)
        refine ⟨rfl, true, ?_, hm, K_39⟩
        repeat' first | exact trivial | refine ⟨rfl, ?_⟩
      ·
        replace hm := cnd_f c10 hm
        have B40 := (Bx.gr B36 Gw11)
        refine sd_vv rfl rfl rfl (vv_loadW agg_45 rfl B40 rfl) ?_
        have B41 := (Bx.gr (Bx.gr (Bx.gr B8 Gw4) Gw10) Gw11)
        refine sd_vv rfl rfl rfl (vv_loadW agg_47 rfl B41 rfl) ?_
        have hb := bnd hm; clear hm; obtain ⟨x12, hx12, hm⟩ := hb
        refine sd_ev rfl rfl rfl (ev_call en_62 rfl (ref03_IsSubset_w p0 p2 _ hx12 _)) ?_
        rintro _ w12 ⟨rfl, Gw12⟩
        have z42 := Gw12.size
        refine sd_vv rfl rfl rfl (vv_not rfl) ?_
        refine sd_vv rfl rfl rfl (vv_pickF rfl rfl) ?_
        refine sd_nil ?_
        have K_43 : Kz [] w4 w12 := (Kz.gr (Kz.gr (Kz.gr (Kz.refl _ _) Gw10) Gw11) Gw12)
        refine ⟨rfl, (!x12), ?_, hm, K_43⟩
        repeat' first | exact trivial | refine ⟨rfl, ?_⟩
end Go.Proofs.Ytecempahccgijaa.Mx
