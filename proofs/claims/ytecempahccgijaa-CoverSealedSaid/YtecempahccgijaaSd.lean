/- Walks that follow mirrors: Sd. Printed by mx.py. -/
import Derived.Test.YtecempahccgijaaWSd
import Derived.Test.YtecempahccgijaaSdM
set_option linter.unusedVariables false
set_option linter.unusedSimpArgs false
set_option maxRecDepth 100000
namespace Go.Proofs.Ytecempahccgijaa.Mx
open Go Go.RowKit Go.Sx
theorem en_56 : En Try.prog 56 := fun _ _ => by kernel_rfl
theorem en_59 : En Try.prog 59 := fun _ _ => by kernel_rfl
theorem en_62 : En Try.prog 62 := fun _ _ => by kernel_rfl
theorem en_61 : En Try.prog 61 := fun _ _ => by kernel_rfl

set_option maxHeartbeats 2000000 in
theorem law03_CoverSealed_w (p0 : W2) (p1 : TScheme) (p2 : List TSubset) (p3 : W2) (p4 : Int) (vp2 : Value) (zp2 gp2 op2 : Nat) (r : Bool) (hm : law03_CoverSealed p0 p1 p2 p3 p4 = some r) (w : World) (hp2 : Rd w zp2 gp2 op2 2 vp2 (p2.map TSubset.cs))  :
    Calls Try.prog 17 [kv p0, .agg (TScheme.cs p1).toArray, vp2, kv p3, .int .i64 p4].toArray w fun e w' => ∃ v, e = .returned v ∧ (v = .bool r ∧ Gr w w') := by
  have lt1 := hp2.lth
  unfold law03_CoverSealed at hm
  refine calls_of_sw (R := fun v w' => v = .bool r ∧ Gr w w') 132 Try.func17 rfl rfl rfl ?_
  refine sw_seq ?_
  -- region 0 outright.go:256
  refine sw_region [(0, 0), (1, 0), (2, 0), (3, 0)] rfl rfl rfl ?_
  refine sd_ev rfl rfl rfl (ev_box (cs := kb p0) rfl rfl) ?_
  rintro _ w1 ⟨b1, rfl, hbw1, Bw1, Gw1⟩
  have z2 := Gw1.size
  have lt3 := Bw1.lt
  refine sd_ev rfl rfl rfl (ev_box (cs := TScheme.cs p1) rfl rfl) ?_
  rintro _ w2 ⟨b2, rfl, hbw2, Bw2, Gw2⟩
  have z4 := Gw2.size
  have lt5 := Bw2.lt
  refine sd_ev rfl rfl rfl (ev_box (cs := kb p3) rfl rfl) ?_
  rintro _ w3 ⟨b3, rfl, hbw3, Bw3, Gw3⟩
  have z6 := Gw3.size
  have lt7 := Bw3.lt
  refine sd_vv rfl rfl rfl (vv_assign rfl) ?_
  refine sd_done ?_
  refine sw_seq ?_
  -- region 1 outright.go:257
  refine sw_region [(0, 0), (1, 0)] rfl rfl rfl ?_
  have hb := bnd hm; clear hm; obtain ⟨x1, hx1, hm⟩ := hb
  refine sd_ev rfl rfl rfl (ev_call en_56 rfl (law03_alive_w _ hx1 _)) ?_
  rintro _ w4 ⟨rfl, Gw4⟩
  have z8 := Gw4.size
  refine sd_vv rfl rfl rfl (vv_assign rfl) ?_
  refine sd_done ?_
  refine sw_seq ?_
  -- region 2 outright.go:258
  refine sw_region [(0, 0), (1, 0), (2, 0), (3, 0), (4, 0), (5, 0), (6, 0), (7, 0), (8, 0), (9, 0), (10, 0)] rfl rfl rfl ?_
  have B9 := (Bx.gr (Bx.gr (Bx.gr Bw1 Gw2) Gw3) Gw4)
  refine sd_vv rfl rfl rfl (vv_loadW agg_26 rfl B9 rfl) ?_
  have B10 := (Bx.gr (Bx.gr Bw2 Gw3) Gw4)
  refine sd_vv rfl rfl rfl (vv_loadW agg_45 rfl B10 rfl) ?_
  refine sd_vv rfl rfl rfl (vv_move rfl) ?_
  have B11 := (Bx.gr Bw3 Gw4)
  refine sd_vv rfl rfl rfl (vv_loadW agg_26 rfl B11 rfl) ?_
  have B12 := (Rd.gr (Rd.gr (Rd.gr (Rd.gr hp2 Gw1) Gw2) Gw3) Gw4)
  have hb := bnd hm; clear hm; obtain ⟨x2, hx2, hm⟩ := hb
  refine sd_ev rfl rfl rfl (ev_call en_38 rfl (cover_Seal_w p0 p1 p2 p3 _ _ _ _ _ hx2 _ B12)) ?_
  rintro _ w5 ⟨u5_r0_0, z5_r0_0, g5_r0_0, u5_r0_2, z5_r0_2, g5_r0_2, rfl, O5_r0_0, f5_r0_0, O5_r0_2, f5_r0_2, d5_0, Gw5⟩
  have z13 := Gw5.size
  have lt14 := O5_r0_0.lth
  have lt15 := O5_r0_2.lth
  refine sd_vv rfl rfl rfl (vv_move rfl) ?_
  refine sd_vv rfl rfl rfl (vv_extract rfl rfl) ?_
  refine sd_vv rfl rfl rfl (vv_extract rfl rfl) ?_
  refine sd_ev rfl rfl rfl (ev_alloc (cs := THeader.cs (THeader.mk [] 0#64 [] k0 k0) (.slice none 0 0) (.slice none 0 0)) zv_28 rfl) ?_
  rintro _ w6 ⟨b6, rfl, hbw6, Bw6, Gw6⟩
  have z16 := Gw6.size
  have lt17 := Bw6.lt
  have B18 := (Own.gr O5_r0_0 Gw6)
  have B19 := (Own.gr O5_r0_2 Gw6)
  refine sd_ev rfl rfl rfl (ev_stM (cs' := THeader.cs x2.1 u5_r0_0 u5_r0_2) (vs := THeader.cs x2.1 u5_r0_0 u5_r0_2) (agg_28).siz rfl rfl rfl rfl (THeader.cs_ones _ _ _ (Own.oneB B18) (Own.oneB B19)) Bw6 rfl rfl) ?_
  rintro _ w7 ⟨Bw7, Mw7⟩
  have z20 := Mw7.size
  refine sd_vv rfl rfl rfl (vv_assign rfl) ?_
  refine sd_done ?_
  refine sw_seq ?_
  have X21 : Gr w w7 := (Gr.md (Gr.trans (Gr.trans (Gr.trans (Gr.trans (Gr.trans (Gr.trans (Gr.refl w) Gw1) Gw2) Gw3) Gw4) Gw5) Gw6) Mw7)
  refine sw_joinD (β := Bool) [30, 31, 32, 33, 34, 35, 36, 37] (fun a3 => [(37, .bool a3)]) (fun a3 wr => (law03_CoverSealed_J1 p0 p1 p2 p3 p4 x1 x2 a3 = some r) ∧ Kz [] w7 wr) ?_ ?_
  · clear hm; rintro a3 w8 ⟨hm, Kw8⟩
    have z22 := Kw8.size
    unfold law03_CoverSealed_J1 at hm
    refine sw_cond rfl (fun c1 => ?_) (fun c1 => ?_)
    ·
      replace hm := cnd_t c1 hm
      refine sw_seq ?_
      -- region 4 outright.go:260
      refine sw_region [(0, 0), (1, 0), (2, 0), (3, 0), (4, 0), (5, 0), (6, 0), (7, 0), (8, 0), (9, 0)] rfl rfl rfl ?_
      refine sd_vv rfl rfl rfl (vv_move rfl) ?_
      refine sd_split rfl rfl rfl (vv_move rfl) (fun c2 => ?_) (fun c2 => ?_)
      ·
        replace hm := cnd_t c2 hm
        refine sd_vv rfl rfl rfl (vv_move rfl) ?_
        refine sd_vv rfl rfl rfl (vv_eql (a := x2.2) (b := 30) rfl rfl) ?_
        refine sd_split rfl rfl rfl (vv_move rfl) (fun c3 => ?_) (fun c3 => ?_)
        ·
          replace hm := ite_t (of_decide_eq_true c3) hm
          refine sd_skip rfl rfl rfl ?_
          refine sd_skip rfl rfl rfl ?_
          refine sd_vv rfl rfl rfl (vv_pickT rfl rfl) ?_
          refine sd_vv rfl rfl rfl (vv_pickT rfl rfl) ?_
          refine sd_vv rfl rfl rfl (vv_assign rfl) ?_
          refine sd_done ?_
          refine sw_ret ?_
          refine then_r ?_
          have X23 : Gr w w8 := (Gr.kz X21 Kw8)
          have hr := Option.some.inj hm
          subst hr
          refine ⟨_, _, rfl, res_1 rfl (rv_tmp rfl), ?_⟩
          exact ⟨rfl, X23⟩
        ·
          replace hm := ite_f (of_decide_eq_false c3) hm
          refine sd_vv rfl rfl rfl (vv_move rfl) ?_
          refine sd_vv rfl rfl rfl (vv_eql (a := x2.2) (b := 4) rfl rfl) ?_
          refine sd_vv rfl rfl rfl (vv_pickF rfl rfl) ?_
          refine sd_vv rfl rfl rfl (vv_pickT rfl rfl) ?_
          refine sd_vv rfl rfl rfl (vv_assign rfl) ?_
          refine sd_done ?_
          refine sw_ret ?_
          refine then_r ?_
          have X24 : Gr w w8 := (Gr.kz X21 Kw8)
          have hr := Option.some.inj hm
          subst hr
          refine ⟨_, _, rfl, res_1 rfl (rv_tmp rfl), ?_⟩
          exact ⟨rfl, X24⟩
      ·
        replace hm := cnd_f c2 hm
        refine sd_skip rfl rfl rfl ?_
        refine sd_skip rfl rfl rfl ?_
        refine sd_skip rfl rfl rfl ?_
        refine sd_skip rfl rfl rfl ?_
        refine sd_skip rfl rfl rfl ?_
        refine sd_skip rfl rfl rfl ?_
        refine sd_vv rfl rfl rfl (vv_pickF rfl rfl) ?_
        refine sd_vv rfl rfl rfl (vv_assign rfl) ?_
        refine sd_done ?_
        refine sw_ret ?_
        refine then_r ?_
        have X25 : Gr w w8 := (Gr.kz X21 Kw8)
        have hr := Option.some.inj hm
        subst hr
        refine ⟨_, _, rfl, res_1 rfl (rv_tmp rfl), ?_⟩
        exact ⟨rfl, X25⟩
    ·
      replace hm := cnd_f c1 hm
      refine sw_skip ?_
      refine then_n ?_
      refine sw_seq ?_
      refine sw_seq ?_
      -- region 5 outright.go:262
      refine sw_region [(0, 0)] rfl rfl rfl ?_
      refine sd_vv rfl rfl rfl (vv_assign rfl) ?_
      refine sd_done ?_
      refine sw_block ?_
      have X26 : Gr w w8 := (Gr.kz X21 Kw8)
      have B27 := (Rd.kz (Rd.md (Rd.gr (Rd.gr B12 Gw5) Gw6) Mw7 (tk1 ((pv_lt (A := (fun x => x ≠ b6)) lt1) : zp2 = 0 ∨ gp2 ≠ b6))) Kw8)
      have B28 := (Own.kz (Own.md B18 Mw7 (tk1 ((pv_lt (A := (fun x => x ≠ b6)) lt14) : z5_r0_0 = 0 ∨ g5_r0_0 ≠ b6))) Kw8)
      have B29 := (Own.kz (Own.md B19 Mw7 (tk1 ((pv_lt (A := (fun x => x ≠ b6)) lt15) : z5_r0_2 = 0 ∨ g5_r0_2 ≠ b6))) Kw8)
      refine sw_loopD (α := Nat × Int) [10, 14, 47, 48, 49, 50, 51, 52, 53, 54, 55, 56, 57, 58, 59, 60, 61, 62, 63, 64] (fun ⟨n2, a5⟩ => [(10, .bool false), (14, .int .i64 a5)]) (fun ⟨n2, a5⟩ wr => (fixN (law03_CoverSealed_L2 p0 p1 p2 p3 p4 x1 x2) n2 a5 = some r) ∧ Kz [] w8 wr) (fun ⟨n2, a5⟩ => n2) ⟨FUEL, 0⟩ ?_ ?_ ?_
      · repeat' first | exact trivial | refine ⟨rfl, ?_⟩
      · exact ⟨hm, Kz.refl _ _⟩
      · clear hm; rintro ⟨n2, a5⟩ w9 ⟨hm, Kw9⟩
        have z30 := Kw9.size
        have hb := fix_succ hm; clear hm; obtain ⟨n2, rfl, hm⟩ := hb
        generalize hrec2 : fixN (law03_CoverSealed_L2 p0 p1 p2 p3 p4 x1 x2) n2 = rec2 at hm
        unfold law03_CoverSealed_L2 at hm
        try dsimp only at hm
        refine sw_seq ?_
        refine sw_seq ?_
        -- region 6 outright.go:262
        refine sw_region [(0, 0), (1, 0), (2, 0), (3, 0)] rfl rfl rfl ?_
        refine sd_vv rfl rfl rfl (vv_move rfl) ?_
        refine sd_vv rfl rfl rfl (vv_move rfl) ?_
        have B31 := (Rd.kz B27 Kw9)
        refine sd_vv rfl rfl rfl (vv_lenT (l := p2) (c := TSubset.cs) Try.underlying48 rfl B31) ?_
        refine sd_vv rfl rfl rfl (vv_lss (a := a5) (b := (p2.length : Int)) rfl rfl) ?_
        refine sd_done ?_
        refine sw_cond rfl (fun c4 => ?_) (fun c4 => ?_)
        ·
          replace hm := ite_t (of_decide_eq_true c4) hm
          refine sw_skip ?_
          refine then_n ?_
          refine sw_seq ?_
          refine sw_block ?_
          refine sw_seq ?_
          -- region 8 outright.go:263 DRAWS
          refine sw_drawN [([])] [] (.leaf [(0, 10), (1, 10), (2, 10), (3, 10), (4, 10), (5, 0), (6, 10)]) (by kernel_rfl) (by kernel_rfl) rfl (by kernel_rfl) ?_
          intro w10 Gw10 zw10
          refine sdz_leaf ?_
          have B32 := (Bx.gr (Bx.kz (Bx.kz (Bx.md (Bx.gr (Bx.gr B10 Gw5) Gw6) Mw7) Kw8) Kw9) Gw10)
          refine dd_hn 0 rfl rfl rfl rfl (Kp.refl ([]) w10) (fun w hS => vv_loadW agg_45 rfl (Bx.kp B32 hS) rfl) ?_
          refine dd_hn 0 rfl rfl rfl rfl (Kp.refl ([]) w10) (fun w hS => vv_move rfl) ?_
          refine dd_hn 0 rfl rfl rfl rfl (Kp.refl ([]) w10) (fun w hS => vv_move rfl) ?_
          have hb := bnd hm; clear hm; obtain ⟨y6, hy6, hm⟩ := hb
          have B33 := (Rd.gr B31 Gw10)
          refine dd_hn 0 rfl rfl rfl rfl (Kp.refl ([]) w10) (fun w hS => vv_ixT (i := a5) Try.underlying48 (agg_47).siz rfl (Rd.kp B33 hS) rfl hy6) ?_
          refine dd_hn 0 rfl rfl rfl rfl (Kp.refl ([]) w10) (fun w hS => vv_elWT agg_47 rfl (Rd.kp B33 hS) hy6 (by first | rfl | omega)) ?_
          have hb := bnd hm; clear hm; obtain ⟨x7, hx7, hm⟩ := hb
          refine dd_z [] rfl rfl rfl (ev_call en_62 rfl (ref03_IsSubset_w p1 y6 _ hx7 _)) ⟨fun _ => tk0, trivial⟩ ?_
          rintro _ w11 ⟨rfl, Gw11⟩
          have z34 := Gw11.size
          refine ⟨Kz.ofGr Gw11, ?_⟩
          have S35 := (Kp.gr (Kp.refl ([]) w10) Gw11)
          refine dd_hn 0 rfl rfl rfl rfl S35 (fun w hS => vv_not rfl) ?_
          refine sd_done ?_
          refine sw_cond rfl (fun c5 => ?_) (fun c5 => ?_)
          ·
            replace hm := cnd_t c5 hm
            refine sw_seq ?_
            -- region 9 outright.go:264
            refine sw_region [(0, 0), (1, 0), (2, 0), (3, 0), (4, 0), (5, 0)] rfl rfl rfl ?_
            refine sd_vv rfl rfl rfl (vv_move rfl) ?_
            refine sd_split rfl rfl rfl (vv_move rfl) (fun c6 => ?_) (fun c6 => ?_)
            ·
              replace hm := cnd_t c6 hm
              refine sd_vv rfl rfl rfl (vv_move rfl) ?_
              refine sd_vv rfl rfl rfl (vv_eql (a := x2.2) (b := 31) rfl rfl) ?_
              refine sd_vv rfl rfl rfl (vv_pickT rfl rfl) ?_
              refine sd_vv rfl rfl rfl (vv_assign rfl) ?_
              refine sd_done ?_
              refine sw_ret ?_
              refine block_r ?_
              refine then_r ?_
              refine then_r ?_
              refine block_r ?_
              refine then_r ?_
              have X36 : Gr w w11 := (Gr.trans (Gr.trans (Gr.kz X26 Kw9) Gw10) Gw11)
              have hr := Option.some.inj hm
              subst hr
              refine ⟨_, _, rfl, res_1 rfl (rv_tmp rfl), ?_⟩
              exact ⟨rfl, X36⟩
            ·
              replace hm := cnd_f c6 hm
              refine sd_skip rfl rfl rfl ?_
              refine sd_skip rfl rfl rfl ?_
              refine sd_vv rfl rfl rfl (vv_pickF rfl rfl) ?_
              refine sd_vv rfl rfl rfl (vv_assign rfl) ?_
              refine sd_done ?_
              refine sw_ret ?_
              refine block_r ?_
              refine then_r ?_
              refine then_r ?_
              refine block_r ?_
              refine then_r ?_
              have X37 : Gr w w11 := (Gr.trans (Gr.trans (Gr.kz X26 Kw9) Gw10) Gw11)
              have hr := Option.some.inj hm
              subst hr
              refine ⟨_, _, rfl, res_1 rfl (rv_tmp rfl), ?_⟩
              exact ⟨rfl, X37⟩
          ·
            replace hm := cnd_f c5 hm
            refine sw_skip ?_
            refine block_n ?_
            refine then_n ?_
            -- region 7 outright.go:262
            refine sw_region [(0, 0), (1, 0), (2, 0)] rfl rfl rfl ?_
            refine sd_vv rfl rfl rfl (vv_move rfl) ?_
            refine sd_vv rfl rfl rfl (vv_add (k := .i64) (a := a5) (b := 1) rfl rfl) ?_
            refine sd_vv rfl rfl rfl (vv_assign rfl) ?_
            refine sd_nil ?_
            have K_38 : Kz [] w8 w11 := (Kz.gr (Kz.gr Kw9 Gw10) Gw11)
            subst hrec2
            refine ⟨rfl, ⟨n2, w64 (a5 + 1)⟩, ?_, ⟨hm, K_38⟩, Nat.lt_succ_self _⟩
            repeat' first | exact trivial | refine ⟨rfl, ?_⟩
        ·
          replace hm := ite_f (of_decide_eq_false c4) hm
          refine sw_exit ?_
          refine then_x ?_
          refine then_x ?_
          refine block_x ?_
          refine then_n ?_
          refine sw_seq ?_
          have X39 : Gr w w9 := (Gr.kz X26 Kw9)
          refine sw_joinD (β := Bool) [65, 66, 67, 68, 69, 70, 71, 72, 73] (fun a8 => [(73, .bool a8)]) (fun a8 wr => (law03_CoverSealed_J3 p0 p1 p2 p3 p4 x1 x2 a8 = some r) ∧ Kz [] w9 wr) ?_ ?_
          · clear hm; rintro a8 w12 ⟨hm, Kw12⟩
            have z40 := Kw12.size
            unfold law03_CoverSealed_J3 at hm
            refine sw_cond rfl (fun c7 => ?_) (fun c7 => ?_)
            ·
              replace hm := cnd_t c7 hm
              refine sw_seq ?_
              -- region 11 outright.go:268
              refine sw_region [(0, 0), (1, 0), (2, 0), (3, 0), (4, 0), (5, 0)] rfl rfl rfl ?_
              refine sd_vv rfl rfl rfl (vv_move rfl) ?_
              refine sd_split rfl rfl rfl (vv_move rfl) (fun c8 => ?_) (fun c8 => ?_)
              ·
                replace hm := cnd_t c8 hm
                refine sd_vv rfl rfl rfl (vv_move rfl) ?_
                refine sd_vv rfl rfl rfl (vv_eql (a := x2.2) (b := 0) rfl rfl) ?_
                refine sd_vv rfl rfl rfl (vv_pickT rfl rfl) ?_
                refine sd_vv rfl rfl rfl (vv_assign rfl) ?_
                refine sd_done ?_
                refine sw_ret ?_
                refine then_r ?_
                have X41 : Gr w w12 := (Gr.kz X39 Kw12)
                have hr := Option.some.inj hm
                subst hr
                refine ⟨_, _, rfl, res_1 rfl (rv_tmp rfl), ?_⟩
                exact ⟨rfl, X41⟩
              ·
                replace hm := cnd_f c8 hm
                refine sd_skip rfl rfl rfl ?_
                refine sd_skip rfl rfl rfl ?_
                refine sd_vv rfl rfl rfl (vv_pickF rfl rfl) ?_
                refine sd_vv rfl rfl rfl (vv_assign rfl) ?_
                refine sd_done ?_
                refine sw_ret ?_
                refine then_r ?_
                have X42 : Gr w w12 := (Gr.kz X39 Kw12)
                have hr := Option.some.inj hm
                subst hr
                refine ⟨_, _, rfl, res_1 rfl (rv_tmp rfl), ?_⟩
                exact ⟨rfl, X42⟩
            ·
              replace hm := cnd_f c7 hm
              refine sw_skip ?_
              refine then_n ?_
              refine sw_seq ?_
              -- region 12 outright.go:270
              refine sw_region [(0, 0), (1, 0), (2, 0), (3, 0), (4, 0), (5, 0), (6, 0), (7, 0), (8, 0), (9, 0)] rfl rfl rfl ?_
              have B43 := (Bx.kz (Bx.kz (Bx.kz (Bx.md (Bx.gr (Bx.gr B9 Gw5) Gw6) Mw7) Kw8) Kw9) Kw12)
              refine sd_vv rfl rfl rfl (vv_loadW agg_26 rfl B43 rfl) ?_
              have B44 := (Bx.kz (Bx.kz (Bx.kz (Bx.md (Bx.gr (Bx.gr B10 Gw5) Gw6) Mw7) Kw8) Kw9) Kw12)
              refine sd_vv rfl rfl rfl (vv_loadW agg_45 rfl B44 rfl) ?_
              refine sd_vv rfl rfl rfl (vv_move rfl) ?_
              have hb := bnd hm; clear hm; obtain ⟨x9, hx9, hm⟩ := hb
              refine sd_ev rfl rfl rfl (ev_call en_40 rfl (cover_Secret_w p0 p1 p4 _ hx9 _)) ?_
              rintro _ w13 ⟨u13_r0_1, z13_r0_1, g13_r0_1, rfl, O13_r0_1, f13_r0_1, Gw13⟩
              have z45 := Gw13.size
              have lt46 := O13_r0_1.lth
              refine sd_vv rfl rfl rfl (vv_move rfl) ?_
              refine sd_vv rfl rfl rfl (vv_extract rfl rfl) ?_
              refine sd_vv rfl rfl rfl (vv_extract rfl rfl) ?_
              refine sd_ev rfl rfl rfl (ev_alloc (cs := TSecret.cs (TSecret.mk 0 [] (TPoint.mk 0#64 0#64)) (.slice none 0 0)) zv_74 rfl) ?_
              rintro _ w14 ⟨b14, rfl, hbw14, Bw14, Gw14⟩
              have z47 := Gw14.size
              have lt48 := Bw14.lt
              have B49 := (Own.gr O13_r0_1 Gw14)
              refine sd_ev rfl rfl rfl (ev_stM (cs' := TSecret.cs x9.1 u13_r0_1) (vs := TSecret.cs x9.1 u13_r0_1) (agg_74).siz rfl rfl rfl rfl (TSecret.cs_ones _ _ (Own.oneB B49)) Bw14 rfl rfl) ?_
              rintro _ w15 ⟨Bw15, Mw15⟩
              have z50 := Mw15.size
              refine sd_vv rfl rfl rfl (vv_assign rfl) ?_
              refine sd_done ?_
              refine sw_seq ?_
              -- region 13 outright.go:271
              refine sw_region [(0, 0), (1, 0), (2, 0), (3, 0), (4, 0), (5, 0), (6, 0), (7, 0), (8, 0), (9, 0)] rfl rfl rfl ?_
              have B51 := (Bx.md (Bx.gr (Bx.gr B44 Gw13) Gw14) Mw15)
              refine sd_vv rfl rfl rfl (vv_loadW agg_45 rfl B51 rfl) ?_
              refine sd_vv rfl rfl rfl (vv_loadW agg_74 rfl Bw15 rfl) ?_
              have B52 := (Bx.md (Bx.gr (Bx.gr (Bx.kz (Bx.kz (Bx.kz Bw7 Kw8) Kw9) Kw12) Gw13) Gw14) Mw15)
              refine sd_vv rfl rfl rfl (vv_loadW agg_28 rfl B52 rfl) ?_
              have B53 := (Own.md B49 Mw15 (tk1 ((pv_lt (A := (fun x => x ≠ b14)) lt46) : z13_r0_1 = 0 ∨ g13_r0_1 ≠ b14)))
              have B54 := (Own.md (Own.gr (Own.gr (Own.kz (Own.kz B28 Kw9) Kw12) Gw13) Gw14) Mw15 (tk1 ((pv_lt (A := (fun x => x ≠ b14)) lt14) : z5_r0_0 = 0 ∨ g5_r0_0 ≠ b14)))
              have B55 := (Own.md (Own.gr (Own.gr (Own.kz (Own.kz B29 Kw9) Kw12) Gw13) Gw14) Mw15 (tk1 ((pv_lt (A := (fun x => x ≠ b14)) lt15) : z5_r0_2 = 0 ∨ g5_r0_2 ≠ b14)))
              have hb := bnd hm; clear hm; obtain ⟨x10, hx10, hm⟩ := hb
              refine sd_ev rfl rfl rfl (ev_call en_44 rfl (cover_Open_w p1 x9.1 x2.1 _ _ _ _ _ _ _ _ _ _ _ _ _ hx10 _ (Own.rd B53) (Own.rd B54) (Own.rd B55))) ?_
              rintro _ w16 ⟨rfl, Gw16⟩
              have z56 := Gw16.size
              refine sd_vv rfl rfl rfl (vv_move rfl) ?_
              refine sd_vv rfl rfl rfl (vv_extract rfl rfl) ?_
              refine sd_vv rfl rfl rfl (vv_extract rfl rfl) ?_
              refine sd_ev rfl rfl rfl (ev_alloc (cs := kb k0) zv_26 rfl) ?_
              rintro _ w17 ⟨b17, rfl, hbw17, Bw17, Gw17⟩
              have z57 := Gw17.size
              have lt58 := Bw17.lt
              refine sd_ev rfl rfl rfl (ev_stM (cs' := kb x10.1) (vs := kb x10.1) (agg_26).siz rfl rfl rfl rfl rfl Bw17 rfl rfl) ?_
              rintro _ w18 ⟨Bw18, Mw18⟩
              have z59 := Mw18.size
              refine sd_vv rfl rfl rfl (vv_assign rfl) ?_
              refine sd_done ?_
              refine sw_seq ?_
              -- region 14 outright.go:272
              refine sw_region [(0, 0), (1, 0), (2, 0), (3, 0), (4, 0), (5, 0), (6, 0), (7, 0), (8, 0)] rfl rfl rfl ?_
              have B60 := (Bx.md (Bx.gr (Bx.gr B51 Gw16) Gw17) Mw18)
              refine sd_vv rfl rfl rfl (vv_loadW agg_45 rfl B60 rfl) ?_
              refine sd_vv rfl rfl rfl (vv_move rfl) ?_
              refine sd_vv rfl rfl rfl (vv_move rfl) ?_
              have B61 := (Rd.md (Rd.gr (Rd.gr (Rd.md (Rd.gr (Rd.gr (Rd.kz B31 Kw12) Gw13) Gw14) Mw15 (tk1 ((pv_lt (A := (fun x => x ≠ b14)) lt1) : zp2 = 0 ∨ gp2 ≠ b14))) Gw16) Gw17) Mw18 (tk1 ((pv_lt (A := (fun x => x ≠ b17)) lt1) : zp2 = 0 ∨ gp2 ≠ b17)))
              have hb := bnd hm; clear hm; obtain ⟨x11, hx11, hm⟩ := hb
              refine sd_ev rfl rfl rfl (ev_call en_61 rfl (law03_member_w p1 p2 p4 _ _ _ _ _ hx11 _ B61)) ?_
              rintro _ w19 ⟨rfl, Gw19⟩
              have z62 := Gw19.size
              refine sd_vv rfl rfl rfl (vv_move rfl) ?_
              refine sd_vv rfl rfl rfl (vv_extract rfl rfl) ?_
              refine sd_vv rfl rfl rfl (vv_extract rfl rfl) ?_
              refine sd_vv rfl rfl rfl (vv_assign rfl) ?_
              refine sd_vv rfl rfl rfl (vv_assign rfl) ?_
              refine sd_done ?_
              refine sw_seq ?_
              have X63 : Gr w w19 := (Gr.trans (Gr.md (Gr.trans (Gr.trans (Gr.md (Gr.trans (Gr.trans (Gr.kz X39 Kw12) Gw13) Gw14) Mw15) Gw16) Gw17) Mw18) Gw19)
              refine sw_joinD (β := Bool) [100, 101, 102, 103, 104, 105, 106, 107, 108, 109] (fun a12 => [(109, .bool a12)]) (fun a12 wr => (law03_CoverSealed_J4 p3 x1 x10 x11 a12 = some r) ∧ Kz [] w19 wr) ?_ ?_
              · clear hm; rintro a12 w20 ⟨hm, Kw20⟩
                have z64 := Kw20.size
                unfold law03_CoverSealed_J4 at hm
                refine sw_cond rfl (fun c9 => ?_) (fun c9 => ?_)
                ·
                  replace hm := cnd_t c9 hm
                  refine sw_seq ?_
                  -- region 16 outright.go:274
                  refine sw_region [(0, 0)] rfl rfl rfl ?_
                  refine sd_vv rfl rfl rfl (vv_assign rfl) ?_
                  refine sd_done ?_
                  refine sw_ret ?_
                  refine then_r ?_
                  have X65 : Gr w w20 := (Gr.kz X63 Kw20)
                  have hr := Option.some.inj hm
                  subst hr
                  refine ⟨_, _, rfl, res_1 rfl (rv_tmp rfl), ?_⟩
                  exact ⟨rfl, X65⟩
                ·
                  replace hm := cnd_f c9 hm
                  refine sw_skip ?_
                  refine then_n ?_
                  refine sw_seq ?_
                  refine sw_seq ?_
                  -- region 17 outright.go:276
                  refine sw_region [(0, 0), (1, 0)] rfl rfl rfl ?_
                  refine sd_vv rfl rfl rfl (vv_move rfl) ?_
                  refine sd_vv rfl rfl rfl (vv_not rfl) ?_
                  refine sd_done ?_
                  refine sw_cond rfl (fun c10 => ?_) (fun c10 => ?_)
                  ·
                    replace hm := cnd_t c10 hm
                    refine sw_seq ?_
                    -- region 18 outright.go:277
                    refine sw_region [(0, 0), (1, 0), (2, 0), (3, 0), (4, 0), (5, 0), (6, 0), (7, 0), (8, 0), (9, 0), (10, 0)] rfl rfl rfl ?_
                    refine sd_vv rfl rfl rfl (vv_move rfl) ?_
                    refine sd_split rfl rfl rfl (vv_move rfl) (fun c11 => ?_) (fun c11 => ?_)
                    ·
                      replace hm := cnd_t c11 hm
                      refine sd_vv rfl rfl rfl (vv_move rfl) ?_
                      refine sd_vv rfl rfl rfl (vv_eql (a := x10.2) (b := 6) rfl rfl) ?_
                      refine sd_vv rfl rfl rfl (vv_pickT rfl rfl) ?_
                      refine sd_split rfl rfl rfl (vv_move rfl) (fun c12 => ?_) (fun c12 => ?_)
                      ·
                        replace hm := ite_t (of_decide_eq_true c12) hm
                        have B66 := (Bx.kz (Bx.gr Bw18 Gw19) Kw20)
                        refine sd_vv rfl rfl rfl (vv_loadW agg_26 rfl B66 rfl) ?_
                        refine sd_vv rfl rfl rfl (vv_buildZ bz_26) ?_
                        refine sd_vv rfl rfl rfl (vv_eqlS (cf := kb) (a := x10.1) (b := k0) eqt_26 rfl rfl rfl rfl (fun h => kb_inj h)) ?_
                        refine sd_vv rfl rfl rfl (vv_pickT rfl rfl) ?_
                        refine sd_vv rfl rfl rfl (vv_assign rfl) ?_
                        refine sd_done ?_
                        refine sw_ret ?_
                        refine then_r ?_
                        have X67 : Gr w w20 := (Gr.kz X63 Kw20)
                        have hr := Option.some.inj hm
                        subst hr
                        refine ⟨_, _, rfl, res_1 rfl (rv_tmp rfl), ?_⟩
                        exact ⟨rfl, X67⟩
                      ·
                        replace hm := ite_f (of_decide_eq_false c12) hm
                        refine sd_skip rfl rfl rfl ?_
                        refine sd_skip rfl rfl rfl ?_
                        refine sd_skip rfl rfl rfl ?_
                        refine sd_vv rfl rfl rfl (vv_pickF rfl rfl) ?_
                        refine sd_vv rfl rfl rfl (vv_assign rfl) ?_
                        refine sd_done ?_
                        refine sw_ret ?_
                        refine then_r ?_
                        have X68 : Gr w w20 := (Gr.kz X63 Kw20)
                        have hr := Option.some.inj hm
                        subst hr
                        refine ⟨_, _, rfl, res_1 rfl (rv_tmp rfl), ?_⟩
                        exact ⟨rfl, X68⟩
                    ·
                      replace hm := cnd_f c11 hm
                      refine sd_skip rfl rfl rfl ?_
                      refine sd_skip rfl rfl rfl ?_
                      refine sd_vv rfl rfl rfl (vv_pickF rfl rfl) ?_
                      refine sd_vv rfl rfl rfl (vv_move rfl) ?_
                      refine sd_skip rfl rfl rfl ?_
                      refine sd_skip rfl rfl rfl ?_
                      refine sd_skip rfl rfl rfl ?_
                      refine sd_vv rfl rfl rfl (vv_pickF rfl rfl) ?_
                      refine sd_vv rfl rfl rfl (vv_assign rfl) ?_
                      refine sd_done ?_
                      refine sw_ret ?_
                      refine then_r ?_
                      have X69 : Gr w w20 := (Gr.kz X63 Kw20)
                      have hr := Option.some.inj hm
                      subst hr
                      refine ⟨_, _, rfl, res_1 rfl (rv_tmp rfl), ?_⟩
                      exact ⟨rfl, X69⟩
                  ·
                    replace hm := cnd_f c10 hm
                    refine sw_skip ?_
                    refine then_n ?_
                    refine sw_seq ?_
                    -- region 19 outright.go:279
                    refine sw_region [(0, 0), (1, 0), (2, 0), (3, 0), (4, 0), (5, 0), (6, 0), (7, 0), (8, 0), (9, 0), (10, 0)] rfl rfl rfl ?_
                    refine sd_vv rfl rfl rfl (vv_move rfl) ?_
                    refine sd_split rfl rfl rfl (vv_move rfl) (fun c13 => ?_) (fun c13 => ?_)
                    ·
                      replace hm := cnd_t c13 hm
                      refine sd_vv rfl rfl rfl (vv_move rfl) ?_
                      refine sd_vv rfl rfl rfl (vv_eql (a := x10.2) (b := 0) rfl rfl) ?_
                      refine sd_vv rfl rfl rfl (vv_pickT rfl rfl) ?_
                      refine sd_split rfl rfl rfl (vv_move rfl) (fun c14 => ?_) (fun c14 => ?_)
                      ·
                        replace hm := ite_t (of_decide_eq_true c14) hm
                        have B70 := (Bx.kz (Bx.gr Bw18 Gw19) Kw20)
                        refine sd_vv rfl rfl rfl (vv_loadW agg_26 rfl B70 rfl) ?_
                        have B71 := (Bx.kz (Bx.gr (Bx.md (Bx.gr (Bx.gr (Bx.md (Bx.gr (Bx.gr (Bx.kz (Bx.kz (Bx.kz (Bx.md (Bx.gr (Bx.gr B11 Gw5) Gw6) Mw7) Kw8) Kw9) Kw12) Gw13) Gw14) Mw15) Gw16) Gw17) Mw18) Gw19) Kw20)
                        refine sd_vv rfl rfl rfl (vv_loadW agg_26 rfl B71 rfl) ?_
                        refine sd_vv rfl rfl rfl (vv_eqlS (cf := kb) (a := x10.1) (b := p3) eqt_26 rfl rfl rfl rfl (fun h => kb_inj h)) ?_
                        refine sd_vv rfl rfl rfl (vv_pickT rfl rfl) ?_
                        refine sd_vv rfl rfl rfl (vv_assign rfl) ?_
                        refine sd_done ?_
                        refine sw_ret ?_
                        have X72 : Gr w w20 := (Gr.kz X63 Kw20)
                        have hr := Option.some.inj hm
                        subst hr
                        refine ⟨_, _, rfl, res_1 rfl (rv_tmp rfl), ?_⟩
                        exact ⟨rfl, X72⟩
                      ·
                        replace hm := ite_f (of_decide_eq_false c14) hm
                        refine sd_skip rfl rfl rfl ?_
                        refine sd_skip rfl rfl rfl ?_
                        refine sd_skip rfl rfl rfl ?_
                        refine sd_vv rfl rfl rfl (vv_pickF rfl rfl) ?_
                        refine sd_vv rfl rfl rfl (vv_assign rfl) ?_
                        refine sd_done ?_
                        refine sw_ret ?_
                        have X73 : Gr w w20 := (Gr.kz X63 Kw20)
                        have hr := Option.some.inj hm
                        subst hr
                        refine ⟨_, _, rfl, res_1 rfl (rv_tmp rfl), ?_⟩
                        exact ⟨rfl, X73⟩
                    ·
                      replace hm := cnd_f c13 hm
                      refine sd_skip rfl rfl rfl ?_
                      refine sd_skip rfl rfl rfl ?_
                      refine sd_vv rfl rfl rfl (vv_pickF rfl rfl) ?_
                      refine sd_vv rfl rfl rfl (vv_move rfl) ?_
                      refine sd_skip rfl rfl rfl ?_
                      refine sd_skip rfl rfl rfl ?_
                      refine sd_skip rfl rfl rfl ?_
                      refine sd_vv rfl rfl rfl (vv_pickF rfl rfl) ?_
                      refine sd_vv rfl rfl rfl (vv_assign rfl) ?_
                      refine sd_done ?_
                      refine sw_ret ?_
                      have X74 : Gr w w20 := (Gr.kz X63 Kw20)
                      have hr := Option.some.inj hm
                      subst hr
                      refine ⟨_, _, rfl, res_1 rfl (rv_tmp rfl), ?_⟩
                      exact ⟨rfl, X74⟩
              ·
                -- region 15 outright.go:273
                refine sw_region [(0, 0), (1, 0), (2, 0), (3, 0), (4, 0), (5, 0), (6, 0), (7, 0), (8, 0), (9, 0)] rfl rfl rfl ?_
                refine sd_vv rfl rfl rfl (vv_move rfl) ?_
                refine sd_vv rfl rfl rfl (vv_neq (a := x2.2) (b := 0) rfl rfl) ?_
                refine sd_split rfl rfl rfl (vv_move rfl) (fun c15 => ?_) (fun c15 => ?_)
                ·
                  replace hm := ite_t (of_decide_eq_true c15) hm
                  refine sd_skip rfl rfl rfl ?_
                  refine sd_skip rfl rfl rfl ?_
                  refine sd_vv rfl rfl rfl (vv_pickT rfl rfl) ?_
                  refine sd_vv rfl rfl rfl (vv_move rfl) ?_
                  refine sd_skip rfl rfl rfl ?_
                  refine sd_skip rfl rfl rfl ?_
                  refine sd_vv rfl rfl rfl (vv_pickT rfl rfl) ?_
                  refine sd_nil ?_
                  have K_75 : Kz [] w19 w19 := (Kz.refl _ _)
                  refine ⟨rfl, true, ?_, hm, K_75⟩
                  repeat' first | exact trivial | refine ⟨rfl, ?_⟩
                ·
                  replace hm := ite_f (of_decide_eq_false c15) hm
                  refine sd_vv rfl rfl rfl (vv_move rfl) ?_
                  refine sd_vv rfl rfl rfl (vv_neq (a := x9.2) (b := 0) rfl rfl) ?_
                  refine sd_vv rfl rfl rfl (vv_pickF rfl rfl) ?_
                  refine sd_split rfl rfl rfl (vv_move rfl) (fun c16 => ?_) (fun c16 => ?_)
                  ·
                    replace hm := ite_t (of_decide_eq_true c16) hm
                    refine sd_skip rfl rfl rfl ?_
                    refine sd_skip rfl rfl rfl ?_
                    refine sd_vv rfl rfl rfl (vv_pickT rfl rfl) ?_
                    refine sd_nil ?_
                    have K_76 : Kz [] w19 w19 := (Kz.refl _ _)
                    refine ⟨rfl, true, ?_, hm, K_76⟩
                    repeat' first | exact trivial | refine ⟨rfl, ?_⟩
                  ·
                    replace hm := ite_f (of_decide_eq_false c16) hm
                    refine sd_vv rfl rfl rfl (vv_move rfl) ?_
                    refine sd_vv rfl rfl rfl (vv_not rfl) ?_
                    refine sd_vv rfl rfl rfl (vv_pickF rfl rfl) ?_
                    refine sd_nil ?_
                    have K_77 : Kz [] w19 w19 := (Kz.refl _ _)
                    refine ⟨rfl, (!x11.2), ?_, hm, K_77⟩
                    repeat' first | exact trivial | refine ⟨rfl, ?_⟩
          ·
            -- region 10 outright.go:267
            refine sw_region [(0, 0), (1, 0), (2, 0), (3, 0), (4, 0), (5, 0), (6, 0), (7, 0), (8, 0)] rfl rfl rfl ?_
            refine sd_vv rfl rfl rfl (vv_move rfl) ?_
            refine sd_vv rfl rfl rfl (vv_lss (a := p4) (b := 0) rfl rfl) ?_
            refine sd_split rfl rfl rfl (vv_move rfl) (fun c17 => ?_) (fun c17 => ?_)
            ·
              replace hm := ite_t (of_decide_eq_true c17) hm
              refine sd_skip rfl rfl rfl ?_
              refine sd_skip rfl rfl rfl ?_
              refine sd_skip rfl rfl rfl ?_
              refine sd_skip rfl rfl rfl ?_
              refine sd_skip rfl rfl rfl ?_
              refine sd_vv rfl rfl rfl (vv_pickT rfl rfl) ?_
              refine sd_nil ?_
              have K_78 : Kz [] w9 w9 := (Kz.refl _ _)
              refine ⟨rfl, true, ?_, hm, K_78⟩
              repeat' first | exact trivial | refine ⟨rfl, ?_⟩
            ·
              replace hm := ite_f (of_decide_eq_false c17) hm
              refine sd_vv rfl rfl rfl (vv_move rfl) ?_
              refine sd_vv rfl rfl rfl (vv_fieldAddr fa_45_1 rfl) ?_
              have B79 := (Bx.kz (Bx.kz (Bx.md (Bx.gr (Bx.gr B10 Gw5) Gw6) Mw7) Kw8) Kw9)
              refine sd_vv rfl rfl rfl (vv_load1 (v := .int .i64 p1.Depth) one_3 rfl B79 rfl) ?_
              have hb := bnd hm; clear hm; obtain ⟨n13, hn13, hm⟩ := hb
              refine sd_vv rfl rfl rfl (vv_shlI (a := 1) (b := p1.Depth) rfl rfl hn13) ?_
              refine sd_vv rfl rfl rfl (vv_geq (a := p4) (b := shlI 1 n13) rfl rfl) ?_
              refine sd_vv rfl rfl rfl (vv_pickF rfl rfl) ?_
              refine sd_nil ?_
              have K_80 : Kz [] w9 w9 := (Kz.refl _ _)
              refine ⟨rfl, (decide (shlI 1 n13 ≤ p4)), ?_, hm, K_80⟩
              repeat' first | exact trivial | refine ⟨rfl, ?_⟩
  ·
    -- region 3 outright.go:259
    refine sw_region [(0, 0), (1, 0), (2, 0), (3, 0), (4, 0), (5, 0), (6, 0), (7, 0)] rfl rfl rfl ?_
    have B81 := (Bx.md (Bx.gr (Bx.gr B10 Gw5) Gw6) Mw7)
    refine sd_vv rfl rfl rfl (vv_loadW agg_45 rfl B81 rfl) ?_
    have hb := bnd hm; clear hm; obtain ⟨x14, hx14, hm⟩ := hb
    refine sd_ev rfl rfl rfl (ev_call en_59 rfl (ref03_Valid_w p1 _ hx14 _)) ?_
    rintro _ w21 ⟨rfl, Gw21⟩
    have z82 := Gw21.size
    refine sd_vv rfl rfl rfl (vv_not rfl) ?_
    refine sd_split rfl rfl rfl (vv_move rfl) (fun c18 => ?_) (fun c18 => ?_)
    ·
      replace hm := cnd_t c18 hm
      refine sd_skip rfl rfl rfl ?_
      refine sd_skip rfl rfl rfl ?_
      refine sd_skip rfl rfl rfl ?_
      refine sd_vv rfl rfl rfl (vv_pickT rfl rfl) ?_
      refine sd_nil ?_
      have K_83 : Kz [] w7 w21 := (Kz.gr (Kz.refl _ _) Gw21)
      refine ⟨rfl, true, ?_, hm, K_83⟩
      repeat' first | exact trivial | refine ⟨rfl, ?_⟩
    ·
      replace hm := cnd_f c18 hm
      refine sd_vv rfl rfl rfl (vv_move rfl) ?_
      have B84 := (Rd.gr (Rd.md (Rd.gr (Rd.gr B12 Gw5) Gw6) Mw7 (tk1 ((pv_lt (A := (fun x => x ≠ b6)) lt1) : zp2 = 0 ∨ gp2 ≠ b6))) Gw21)
      refine sd_vv rfl rfl rfl (vv_lenT (l := p2) (c := TSubset.cs) Try.underlying48 rfl B84) ?_
      refine sd_vv rfl rfl rfl (vv_gtr (a := (p2.length : Int)) (b := 64) rfl rfl) ?_
      refine sd_vv rfl rfl rfl (vv_pickF rfl rfl) ?_
      refine sd_nil ?_
      have K_85 : Kz [] w7 w21 := (Kz.gr (Kz.refl _ _) Gw21)
      refine ⟨rfl, (decide ((64 : Int) < (p2.length : Int))), ?_, hm, K_85⟩
      repeat' first | exact trivial | refine ⟨rfl, ?_⟩
end Go.Proofs.Ytecempahccgijaa.Mx
