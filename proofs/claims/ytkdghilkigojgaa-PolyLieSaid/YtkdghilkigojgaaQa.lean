/- Walks that follow mirrors: Qa. Printed by mx.py. -/
import Derived.Test.YtkdghilkigojgaaXl
import Derived.Test.YtkdghilkigojgaaQaM
set_option linter.unusedVariables false
set_option linter.unusedSimpArgs false
set_option maxRecDepth 100000
namespace Go.Proofs.Ytkdghilkigojgaa.Mx
open Go Go.RowKit Go.Sx
theorem en_49 : En Try.prog 49 := fun _ _ => by kernel_rfl
theorem en_53 : En Try.prog 53 := fun _ _ => by kernel_rfl
theorem en_54 : En Try.prog 54 := fun _ _ => by kernel_rfl

set_option maxHeartbeats 2000000 in
theorem law04_PolyLie_w (p0 : TScheme) (p1 : List TPoint) (vp1 : Value) (zp1 gp1 op1 : Nat) (r : Bool) (hm : law04_PolyLie p0 p1 = some r) (w : World) (hp1 : Rd w zp1 gp1 op1 2 vp1 (p1.map TPoint.cs))  :
    Calls Try.prog 9 [.agg (TScheme.cs p0).toArray, vp1].toArray w fun e w' => ∃ v, e = .returned v ∧ (v = .bool r ∧ Gr w w') := by
  have lt1 := hp1.lth
  unfold law04_PolyLie at hm
  refine calls_of_sw (R := fun v w' => v = .bool r ∧ Gr w w') 81 Try.func9 rfl rfl rfl ?_
  refine sw_seq ?_
  -- region 0 outright.go:120
  refine sw_region [(0, 0), (1, 0)] rfl rfl rfl ?_
  refine sd_ev rfl rfl rfl (ev_box (cs := TScheme.cs p0) rfl rfl) ?_
  rintro _ w1 ⟨b1, rfl, hbw1, Bw1, Gw1⟩
  have z2 := Gw1.size
  have lt3 := Bw1.lt
  refine sd_vv rfl rfl rfl (vv_assign rfl) ?_
  refine sd_done ?_
  refine sw_seq ?_
  -- region 1 outright.go:121
  refine sw_region [(0, 0), (1, 0)] rfl rfl rfl ?_
  have hb := bnd hm; clear hm; obtain ⟨x1, hx1, hm⟩ := hb
  refine sd_ev rfl rfl rfl (ev_call en_49 rfl (law04_alive_w _ hx1 _)) ?_
  rintro _ w2 ⟨rfl, Gw2⟩
  have z4 := Gw2.size
  refine sd_vv rfl rfl rfl (vv_assign rfl) ?_
  refine sd_done ?_
  refine sw_seq ?_
  -- region 2 outright.go:122
  refine sw_region [(0, 0), (1, 0), (2, 0), (3, 0), (4, 0), (5, 0), (6, 0), (7, 0)] rfl rfl rfl ?_
  have B5 := (Bx.gr Bw1 Gw2)
  refine sd_vv rfl rfl rfl (vv_loadW agg_28 rfl B5 rfl) ?_
  refine sd_vv rfl rfl rfl (vv_move rfl) ?_
  have B6 := (Rd.gr (Rd.gr hp1 Gw1) Gw2)
  have hb := bnd hm; clear hm; obtain ⟨x2, hx2, hm⟩ := hb
  refine sd_ev rfl rfl rfl (ev_call en_36 rfl (poly_Interpolate_w p0 p1 _ _ _ _ _ hx2 _ B6)) ?_
  rintro _ w3 ⟨u3_r0_s, z3_r0_s, g3_r0_s, rfl, O3_r0_s, f3_r0_s, Gw3⟩
  have z7 := Gw3.size
  have lt8 := O3_r0_s.lth
  refine sd_vv rfl rfl rfl (vv_move rfl) ?_
  refine sd_vv rfl rfl rfl (vv_extract rfl rfl) ?_
  refine sd_vv rfl rfl rfl (vv_extract rfl rfl) ?_
  refine sd_vv rfl rfl rfl (vv_assign rfl) ?_
  refine sd_vv rfl rfl rfl (vv_assign rfl) ?_
  refine sd_done ?_
  refine sw_seq ?_
  have X9 : Gr w w3 := (Gr.trans (Gr.trans (Gr.trans (Gr.refl w) Gw1) Gw2) Gw3)
  refine sw_joinD (β := Bool) [18, 19, 20, 21, 22, 23, 24, 25, 26, 27, 28, 29, 30, 31, 32, 33, 34, 35, 36] (fun a3 => [(36, .bool a3)]) (fun a3 wr => (law04_PolyLie_J1 p0 p1 x1 x2 a3 = some r) ∧ Kz [] w3 wr) ?_ ?_
  · clear hm; rintro a3 w4 ⟨hm, Kw4⟩
    have z10 := Kw4.size
    unfold law04_PolyLie_J1 at hm
    refine sw_cond rfl (fun c1 => ?_) (fun c1 => ?_)
    ·
      replace hm := cnd_t c1 hm
      refine sw_seq ?_
      -- region 4 outright.go:124
      refine sw_region [(0, 0), (1, 0), (2, 0), (3, 0), (4, 0), (5, 0)] rfl rfl rfl ?_
      refine sd_vv rfl rfl rfl (vv_move rfl) ?_
      refine sd_split rfl rfl rfl (vv_move rfl) (fun c2 => ?_) (fun c2 => ?_)
      ·
        replace hm := cnd_t c2 hm
        refine sd_vv rfl rfl rfl (vv_move rfl) ?_
        refine sd_vv rfl rfl rfl (vv_neq (a := x2.2) (b := 0) rfl rfl) ?_
        refine sd_vv rfl rfl rfl (vv_pickT rfl rfl) ?_
        refine sd_vv rfl rfl rfl (vv_assign rfl) ?_
        refine sd_done ?_
        refine sw_ret ?_
        refine then_r ?_
        have X11 : Gr w w4 := (Gr.kz X9 Kw4)
        have hr := Option.some.inj hm
        subst hr
        refine ⟨_, _, rfl, res_1 rfl (rv_tmp rfl), ?_⟩
        exact ⟨rfl, X11⟩
      ·
        replace hm := cnd_f c2 hm
        refine sd_skip rfl rfl rfl ?_
        refine sd_skip rfl rfl rfl ?_
        refine sd_vv rfl rfl rfl (vv_pickF rfl rfl) ?_
        refine sd_vv rfl rfl rfl (vv_assign rfl) ?_
        refine sd_done ?_
        refine sw_ret ?_
        refine then_r ?_
        have X12 : Gr w w4 := (Gr.kz X9 Kw4)
        have hr := Option.some.inj hm
        subst hr
        refine ⟨_, _, rfl, res_1 rfl (rv_tmp rfl), ?_⟩
        exact ⟨rfl, X12⟩
    ·
      replace hm := cnd_f c1 hm
      refine sw_skip ?_
      refine then_n ?_
      refine sw_seq ?_
      have X13 : Gr w w4 := (Gr.kz X9 Kw4)
      refine sw_joinD (β := Bool) [42, 43, 44, 45, 46, 47, 48, 49, 50, 51] (fun a4 => [(51, .bool a4)]) (fun a4 wr => (law04_PolyLie_J2 p0 p1 x1 x2 a4 = some r) ∧ Kz [] w4 wr) ?_ ?_
      · clear hm; rintro a4 w5 ⟨hm, Kw5⟩
        have z14 := Kw5.size
        unfold law04_PolyLie_J2 at hm
        refine sw_cond rfl (fun c3 => ?_) (fun c3 => ?_)
        ·
          replace hm := cnd_t c3 hm
          refine sw_seq ?_
          -- region 6 outright.go:127
          refine sw_region [(0, 0)] rfl rfl rfl ?_
          refine sd_vv rfl rfl rfl (vv_assign rfl) ?_
          refine sd_done ?_
          refine sw_ret ?_
          refine then_r ?_
          have X15 : Gr w w5 := (Gr.kz X13 Kw5)
          have hr := Option.some.inj hm
          subst hr
          refine ⟨_, _, rfl, res_1 rfl (rv_tmp rfl), ?_⟩
          exact ⟨rfl, X15⟩
        ·
          replace hm := cnd_f c3 hm
          refine sw_skip ?_
          refine then_n ?_
          refine sw_seq ?_
          refine sw_seq ?_
          -- region 7 outright.go:129
          refine sw_region [(0, 0)] rfl rfl rfl ?_
          refine sd_vv rfl rfl rfl (vv_assign rfl) ?_
          refine sd_done ?_
          refine sw_block ?_
          have X16 : Gr w w5 := (Gr.kz X13 Kw5)
          have B17 := (Rd.kz (Rd.kz (Rd.gr B6 Gw3) Kw4) Kw5)
          have B18 := (Own.kz (Own.kz O3_r0_s Kw4) Kw5)
          refine sw_loopD (α := Nat × Int) [4, 8, 9, 10, 52, 53, 54, 55, 56, 57, 58, 59, 60, 61, 62, 63, 64, 65, 66, 67, 68, 69, 70, 71, 72, 73, 74, 75, 76, 77, 78, 79] (fun ⟨n3, a6⟩ => [(4, .bool false), (8, .int .i64 a6)]) (fun ⟨n3, a6⟩ wr => (fixN (law04_PolyLie_L3 p0 p1 x1 x2) n3 a6 = some r) ∧ Kz [] w5 wr) (fun ⟨n3, a6⟩ => n3) ⟨FUEL, 0⟩ ?_ ?_ ?_
          · repeat' first | exact trivial | refine ⟨rfl, ?_⟩
          · exact ⟨hm, Kz.refl _ _⟩
          · clear hm; rintro ⟨n3, a6⟩ w6 ⟨hm, Kw6⟩
            have z19 := Kw6.size
            have hb := fix_succ hm; clear hm; obtain ⟨n3, rfl, hm⟩ := hb
            generalize hrec3 : fixN (law04_PolyLie_L3 p0 p1 x1 x2) n3 = rec3 at hm
            unfold law04_PolyLie_L3 at hm
            try dsimp only at hm
            refine sw_seq ?_
            refine sw_seq ?_
            -- region 8 outright.go:129
            refine sw_region [(0, 0), (1, 0), (2, 0), (3, 0)] rfl rfl rfl ?_
            refine sd_vv rfl rfl rfl (vv_move rfl) ?_
            refine sd_vv rfl rfl rfl (vv_move rfl) ?_
            have B20 := (Rd.kz B17 Kw6)
            refine sd_vv rfl rfl rfl (vv_lenT (l := p1) (c := TPoint.cs) Try.underlying43 rfl B20) ?_
            refine sd_vv rfl rfl rfl (vv_lss (a := a6) (b := (p1.length : Int)) rfl rfl) ?_
            refine sd_done ?_
            refine sw_cond rfl (fun c4 => ?_) (fun c4 => ?_)
            ·
              replace hm := ite_t (of_decide_eq_true c4) hm
              refine sw_skip ?_
              refine then_n ?_
              refine sw_seq ?_
              refine sw_block ?_
              refine sw_seq ?_
              -- region 10 outright.go:130 DRAWS
              refine sw_drawN [([])] [] (.leaf [(0, 10), (1, 10), (2, 10), (3, 10), (4, 10), (5, 10), (6, 10), (7, 0), (8, 10), (9, 10), (10, 10), (11, 10), (12, 10)]) (by kernel_rfl) (by kernel_rfl) rfl (by kernel_rfl) ?_
              intro w7 Gw7 zw7
              refine sdz_leaf ?_
              have B21 := (Bx.gr (Bx.kz (Bx.kz (Bx.kz (Bx.gr B5 Gw3) Kw4) Kw5) Kw6) Gw7)
              refine dd_hn 0 rfl rfl rfl rfl (Kp.refl ([]) w7) (fun w hS => vv_loadW agg_28 rfl (Bx.kp B21 hS) rfl) ?_
              refine dd_hn 0 rfl rfl rfl rfl (Kp.refl ([]) w7) (fun w hS => vv_move rfl) ?_
              refine dd_hn 0 rfl rfl rfl rfl (Kp.refl ([]) w7) (fun w hS => vv_move rfl) ?_
              refine dd_hn 0 rfl rfl rfl rfl (Kp.refl ([]) w7) (fun w hS => vv_move rfl) ?_
              have hb := bnd hm; clear hm; obtain ⟨y7, hy7, hm⟩ := hb
              have B22 := (Rd.gr B20 Gw7)
              refine dd_hn 0 rfl rfl rfl rfl (Kp.refl ([]) w7) (fun w hS => vv_ixT (i := a6) Try.underlying43 (agg_31).siz rfl (Rd.kp B22 hS) rfl hy7) ?_
              refine dd_hn 0 rfl rfl rfl rfl (Kp.refl ([]) w7) (fun w hS => vv_fieldAddr fa_31_0 rfl) ?_
              refine dd_hn 0 rfl rfl rfl rfl (Kp.refl ([]) w7) (fun w hS => vv_el1T (q := 0) (u := wv y7.X) one_24 rfl (Rd.kp B22 hS) hy7 (by first | rfl | omega) rfl) ?_
              have B23 := (Own.gr (Own.kz B18 Kw6) Gw7)
              have hb := bnd hm; clear hm; obtain ⟨x8, hx8, hm⟩ := hb
              refine dd_z [] rfl rfl rfl (ev_call en_34 rfl (poly_Value_w p0 x2.1 y7.X _ _ _ _ _ hx8 _ (Own.rd B23))) ⟨fun _ => tk0, trivial⟩ ?_
              rintro _ w8 ⟨rfl, Gw8⟩
              have z24 := Gw8.size
              refine ⟨Kz.ofGr Gw8, ?_⟩
              have S25 := (Kp.gr (Kp.refl ([]) w7) Gw8)
              refine dd_hn 0 rfl rfl rfl rfl S25 (fun w hS => vv_move rfl) ?_
              refine dd_hn 0 rfl rfl rfl rfl S25 (fun w hS => vv_extract rfl rfl) ?_
              refine dd_hn 0 rfl rfl rfl rfl S25 (fun w hS => vv_extract rfl rfl) ?_
              refine dd_hn 0 rfl rfl rfl rfl S25 (fun w hS => vv_assign rfl) ?_
              refine dd_hn 0 rfl rfl rfl rfl S25 (fun w hS => vv_assign rfl) ?_
              refine sd_done ?_
              have X26 : Gr w w8 := (Gr.trans (Gr.trans (Gr.kz X16 Kw6) Gw7) Gw8)
              refine sw_joinD (β := Bool) [69, 70, 71, 72, 73, 74, 75, 76, 77, 78, 79] (fun a9 => [(79, .bool a9)]) (fun a9 wr => (law04_PolyLie_J4 a6 rec3 a9 = some r) ∧ Kz [] w8 wr) ?_ ?_
              · clear hm; rintro a9 w9 ⟨hm, Kw9⟩
                have z27 := Kw9.size
                unfold law04_PolyLie_J4 at hm
                refine sw_cond rfl (fun c5 => ?_) (fun c5 => ?_)
                ·
                  replace hm := cnd_t c5 hm
                  refine sw_seq ?_
                  -- region 12 outright.go:132
                  refine sw_region [(0, 0)] rfl rfl rfl ?_
                  refine sd_vv rfl rfl rfl (vv_assign rfl) ?_
                  refine sd_done ?_
                  refine sw_ret ?_
                  refine block_r ?_
                  refine then_r ?_
                  refine then_r ?_
                  refine block_r ?_
                  refine then_r ?_
                  have X28 : Gr w w9 := (Gr.kz X26 Kw9)
                  have hr := Option.some.inj hm
                  subst hr
                  refine ⟨_, _, rfl, res_1 rfl (rv_tmp rfl), ?_⟩
                  exact ⟨rfl, X28⟩
                ·
                  replace hm := cnd_f c5 hm
                  refine sw_skip ?_
                  refine block_n ?_
                  refine then_n ?_
                  -- region 9 outright.go:129
                  refine sw_region [(0, 0), (1, 0), (2, 0)] rfl rfl rfl ?_
                  refine sd_vv rfl rfl rfl (vv_move rfl) ?_
                  refine sd_vv rfl rfl rfl (vv_add (k := .i64) (a := a6) (b := 1) rfl rfl) ?_
                  refine sd_vv rfl rfl rfl (vv_assign rfl) ?_
                  refine sd_nil ?_
                  have K_29 : Kz [] w5 w9 := (Kz.kz (Kz.gr (Kz.gr Kw6 Gw7) Gw8) Kw9)
                  subst hrec3
                  refine ⟨rfl, ⟨n3, w64 (a6 + 1)⟩, ?_, ⟨hm, K_29⟩, Nat.lt_succ_self _⟩
                  repeat' first | exact trivial | refine ⟨rfl, ?_⟩
              ·
                -- region 11 outright.go:131
                refine sw_region [(0, 0), (1, 0), (2, 0), (3, 0), (4, 0), (5, 0), (6, 0), (7, 0), (8, 0), (9, 0), (10, 0)] rfl rfl rfl ?_
                refine sd_vv rfl rfl rfl (vv_move rfl) ?_
                refine sd_vv rfl rfl rfl (vv_neq (a := x8.2) (b := 0) rfl rfl) ?_
                refine sd_split rfl rfl rfl (vv_move rfl) (fun c6 => ?_) (fun c6 => ?_)
                ·
                  replace hm := ite_t (of_decide_eq_true c6) hm
                  refine sd_skip rfl rfl rfl ?_
                  refine sd_skip rfl rfl rfl ?_
                  refine sd_skip rfl rfl rfl ?_
                  refine sd_skip rfl rfl rfl ?_
                  refine sd_skip rfl rfl rfl ?_
                  refine sd_skip rfl rfl rfl ?_
                  refine sd_skip rfl rfl rfl ?_
                  refine sd_vv rfl rfl rfl (vv_pickT rfl rfl) ?_
                  refine sd_nil ?_
                  have K_30 : Kz [] w8 w8 := (Kz.refl _ _)
                  refine ⟨rfl, true, ?_, hm, K_30⟩
                  repeat' first | exact trivial | refine ⟨rfl, ?_⟩
                ·
                  replace hm := ite_f (of_decide_eq_false c6) hm
                  refine sd_vv rfl rfl rfl (vv_move rfl) ?_
                  refine sd_vv rfl rfl rfl (vv_move rfl) ?_
                  refine sd_vv rfl rfl rfl (vv_move rfl) ?_
                  have hb := bnd hm; clear hm; obtain ⟨y10, hy10, hm⟩ := hb
                  have B31 := (Rd.gr B22 Gw8)
                  refine sd_vv rfl rfl rfl (vv_ixT (i := a6) Try.underlying43 (agg_31).siz rfl B31 rfl hy10) ?_
                  refine sd_vv rfl rfl rfl (vv_fieldAddr fa_31_1 rfl) ?_
                  refine sd_vv rfl rfl rfl (vv_el1T (q := 1) (u := wv y10.Y) one_24 rfl B31 hy10 (by first | rfl | omega) rfl) ?_
                  refine sd_vv rfl rfl rfl (vv_neqU (c := x8.1) (d := y10.Y) rfl rfl) ?_
                  refine sd_vv rfl rfl rfl (vv_pickF rfl rfl) ?_
                  refine sd_nil ?_
                  have K_32 : Kz [] w8 w8 := (Kz.refl _ _)
                  refine ⟨rfl, (decide (x8.1 ≠ y10.Y)), ?_, hm, K_32⟩
                  repeat' first | exact trivial | refine ⟨rfl, ?_⟩
            ·
              replace hm := ite_f (of_decide_eq_false c4) hm
              refine sw_exit ?_
              refine then_x ?_
              refine then_x ?_
              refine block_x ?_
              refine then_n ?_
              refine sw_seq ?_
              -- region 13 outright.go:135
              refine sw_region [(0, 0), (1, 0)] rfl rfl rfl ?_
              refine sd_vv rfl rfl rfl (vv_move rfl) ?_
              refine sd_vv rfl rfl rfl (vv_assign rfl) ?_
              refine sd_done ?_
              refine sw_ret ?_
              have X33 : Gr w w6 := (Gr.kz X16 Kw6)
              have hr := Option.some.inj hm
              subst hr
              refine ⟨_, _, rfl, res_1 rfl (rv_tmp rfl), ?_⟩
              exact ⟨rfl, X33⟩
      ·
        -- region 5 outright.go:126
        refine sw_region [(0, 0), (1, 0), (2, 0), (3, 0), (4, 0), (5, 0), (6, 0), (7, 0), (8, 0), (9, 0)] rfl rfl rfl ?_
        refine sd_vv rfl rfl rfl (vv_move rfl) ?_
        refine sd_vv rfl rfl rfl (vv_neq (a := x2.2) (b := 0) rfl rfl) ?_
        refine sd_split rfl rfl rfl (vv_move rfl) (fun c7 => ?_) (fun c7 => ?_)
        ·
          replace hm := ite_t (of_decide_eq_true c7) hm
          refine sd_skip rfl rfl rfl ?_
          refine sd_skip rfl rfl rfl ?_
          refine sd_skip rfl rfl rfl ?_
          refine sd_skip rfl rfl rfl ?_
          refine sd_skip rfl rfl rfl ?_
          refine sd_skip rfl rfl rfl ?_
          refine sd_vv rfl rfl rfl (vv_pickT rfl rfl) ?_
          refine sd_nil ?_
          have K_34 : Kz [] w4 w4 := (Kz.refl _ _)
          refine ⟨rfl, true, ?_, hm, K_34⟩
          repeat' first | exact trivial | refine ⟨rfl, ?_⟩
        ·
          replace hm := ite_f (of_decide_eq_false c7) hm
          refine sd_vv rfl rfl rfl (vv_move rfl) ?_
          have B35 := (Own.kz O3_r0_s Kw4)
          refine sd_vv rfl rfl rfl (vv_lenT (l := x2.1) (c := uwc) Try.underlying60 rfl (Own.rd B35)) ?_
          refine sd_vv rfl rfl rfl (vv_fieldAddr fa_28_2 rfl) ?_
          have B36 := (Bx.kz (Bx.gr B5 Gw3) Kw4)
          refine sd_vv rfl rfl rfl (vv_load1 (v := .int .i64 p0.Degree) one_3 rfl B36 rfl) ?_
          refine sd_vv rfl rfl rfl (vv_add (k := .i64) (a := p0.Degree) (b := 1) rfl rfl) ?_
          refine sd_vv rfl rfl rfl (vv_neq (a := (x2.1.length : Int)) (b := w64 (p0.Degree + 1)) rfl rfl) ?_
          refine sd_vv rfl rfl rfl (vv_pickF rfl rfl) ?_
          refine sd_nil ?_
          have K_37 : Kz [] w4 w4 := (Kz.refl _ _)
          refine ⟨rfl, (decide ((x2.1.length : Int) ≠ w64 (p0.Degree + 1))), ?_, hm, K_37⟩
          repeat' first | exact trivial | refine ⟨rfl, ?_⟩
  ·
    -- region 3 outright.go:123
    refine sw_region [(0, 0), (1, 0), (2, 0), (3, 0), (4, 0), (5, 0), (6, 0), (7, 0), (8, 0), (9, 0), (10, 0), (11, 0), (12, 0), (13, 0), (14, 0), (15, 0), (16, 0), (17, 0), (18, 0)] rfl rfl rfl ?_
    have B38 := (Bx.gr B5 Gw3)
    refine sd_vv rfl rfl rfl (vv_loadW agg_28 rfl B38 rfl) ?_
    have hb := bnd hm; clear hm; obtain ⟨x11, hx11, hm⟩ := hb
    refine sd_ev rfl rfl rfl (ev_call en_53 rfl (ref04_Valid_w p0 _ hx11 _)) ?_
    rintro _ w10 ⟨rfl, Gw10⟩
    have z39 := Gw10.size
    refine sd_vv rfl rfl rfl (vv_not rfl) ?_
    refine sd_split rfl rfl rfl (vv_move rfl) (fun c8 => ?_) (fun c8 => ?_)
    ·
      replace hm := cnd_t c8 hm
      refine sd_skip rfl rfl rfl ?_
      refine sd_skip rfl rfl rfl ?_
      refine sd_skip rfl rfl rfl ?_
      refine sd_skip rfl rfl rfl ?_
      refine sd_skip rfl rfl rfl ?_
      refine sd_skip rfl rfl rfl ?_
      refine sd_vv rfl rfl rfl (vv_pickT rfl rfl) ?_
      refine sd_vv rfl rfl rfl (vv_move rfl) ?_
      refine sd_skip rfl rfl rfl ?_
      refine sd_skip rfl rfl rfl ?_
      refine sd_skip rfl rfl rfl ?_
      refine sd_skip rfl rfl rfl ?_
      refine sd_skip rfl rfl rfl ?_
      refine sd_skip rfl rfl rfl ?_
      refine sd_vv rfl rfl rfl (vv_pickT rfl rfl) ?_
      refine sd_nil ?_
      have K_40 : Kz [] w3 w10 := (Kz.gr (Kz.refl _ _) Gw10)
      refine ⟨rfl, true, ?_, hm, K_40⟩
      repeat' first | exact trivial | refine ⟨rfl, ?_⟩
    ·
      replace hm := cnd_f c8 hm
      refine sd_vv rfl rfl rfl (vv_move rfl) ?_
      have B41 := (Rd.gr (Rd.gr B6 Gw3) Gw10)
      refine sd_vv rfl rfl rfl (vv_lenT (l := p1) (c := TPoint.cs) Try.underlying43 rfl B41) ?_
      refine sd_vv rfl rfl rfl (vv_fieldAddr fa_28_2 rfl) ?_
      have B42 := (Bx.gr B38 Gw10)
      refine sd_vv rfl rfl rfl (vv_load1 (v := .int .i64 p0.Degree) one_3 rfl B42 rfl) ?_
      refine sd_vv rfl rfl rfl (vv_add (k := .i64) (a := p0.Degree) (b := 1) rfl rfl) ?_
      refine sd_vv rfl rfl rfl (vv_neq (a := (p1.length : Int)) (b := w64 (p0.Degree + 1)) rfl rfl) ?_
      refine sd_vv rfl rfl rfl (vv_pickF rfl rfl) ?_
      refine sd_split rfl rfl rfl (vv_move rfl) (fun c9 => ?_) (fun c9 => ?_)
      ·
        replace hm := ite_t (of_decide_eq_true c9) hm
        refine sd_skip rfl rfl rfl ?_
        refine sd_skip rfl rfl rfl ?_
        refine sd_skip rfl rfl rfl ?_
        refine sd_skip rfl rfl rfl ?_
        refine sd_skip rfl rfl rfl ?_
        refine sd_skip rfl rfl rfl ?_
        refine sd_vv rfl rfl rfl (vv_pickT rfl rfl) ?_
        refine sd_nil ?_
        have K_43 : Kz [] w3 w10 := (Kz.gr (Kz.refl _ _) Gw10)
        refine ⟨rfl, true, ?_, hm, K_43⟩
        repeat' first | exact trivial | refine ⟨rfl, ?_⟩
      ·
        replace hm := ite_f (of_decide_eq_false c9) hm
        refine sd_vv rfl rfl rfl (vv_fieldAddr fa_28_3 rfl) ?_
        refine sd_vv rfl rfl rfl (vv_fieldAddr fa_26_1 rfl) ?_
        refine sd_vv rfl rfl rfl (vv_load1 (v := wv p0.Group.Q) one_24 rfl B42 rfl) ?_
        refine sd_vv rfl rfl rfl (vv_move rfl) ?_
        have hb := bnd hm; clear hm; obtain ⟨x12, hx12, hm⟩ := hb
        refine sd_ev rfl rfl rfl (ev_call en_54 rfl (ref04_Right_w p0.Group.Q p1 _ _ _ _ _ hx12 _ B41)) ?_
        rintro _ w11 ⟨rfl, Gw11⟩
        have z44 := Gw11.size
        refine sd_vv rfl rfl rfl (vv_not rfl) ?_
        refine sd_vv rfl rfl rfl (vv_pickF rfl rfl) ?_
        refine sd_nil ?_
        have K_45 : Kz [] w3 w11 := (Kz.gr (Kz.gr (Kz.refl _ _) Gw10) Gw11)
        refine ⟨rfl, (!x12), ?_, hm, K_45⟩
        repeat' first | exact trivial | refine ⟨rfl, ?_⟩
end Go.Proofs.Ytkdghilkigojgaa.Mx
