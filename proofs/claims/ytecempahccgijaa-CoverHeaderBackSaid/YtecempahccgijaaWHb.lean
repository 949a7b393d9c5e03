/- Walks that follow mirrors: WHb. Printed by mx.py. -/
import Derived.Test.YtecempahccgijaaAl
import Derived.Test.YtecempahccgijaaWHbM
set_option linter.unusedVariables false
set_option linter.unusedSimpArgs false
set_option maxRecDepth 100000
namespace Go.Proofs.Ytecempahccgijaa.Mx
open Go Go.RowKit Go.Sx
theorem eqc_47 : EqC Try.prog 2 47 [.i64, .i64] := eqc_struct Try.underlying47 (by kernel_rfl) agg_47 (show EqF _ 1 _ _ _ from (eqf_cons (ks1 := [.i64]) (ks2 := [.i64]) rfl (by simp) (eqc_3.up (by decide)) (eqf_cons (ks1 := [.i64]) (ks2 := []) rfl (by simp) (eqc_3.up (by decide)) (eqf_nil _))))
theorem eqc_108 : EqC Try.prog 3 108 [.i64, .i64, .u8, .u8, .u8, .u8, .u8, .u8, .u8, .u8, .u8, .u8, .u8, .u8, .u8, .u8, .u8, .u8] := eqc_struct Try.underlying108 (by kernel_rfl) agg_108 (show EqF _ 2 _ _ _ from (eqf_cons (ks1 := [.i64, .i64]) (ks2 := [.u8, .u8, .u8, .u8, .u8, .u8, .u8, .u8, .u8, .u8, .u8, .u8, .u8, .u8, .u8, .u8]) rfl (by simp) (eqc_47.up (by decide)) (eqf_cons (ks1 := [.u8, .u8, .u8, .u8, .u8, .u8, .u8, .u8, .u8, .u8, .u8, .u8, .u8, .u8, .u8, .u8]) (ks2 := []) rfl (by simp) (eqc_26.up (by decide)) (eqf_nil _))))
theorem eqt_108 : EqT Try.prog 108 [.i64, .i64, .u8, .u8, .u8, .u8, .u8, .u8, .u8, .u8, .u8, .u8, .u8, .u8, .u8, .u8, .u8, .u8] := ⟨by kernel_rfl, agg_108, 3, by decide, eqc_108⟩
theorem eqc_72 : EqC Try.prog 2 72 [.u64, .u64] := eqc_struct Try.underlying72 (by kernel_rfl) agg_72 (show EqF _ 1 _ _ _ from (eqf_cons (ks1 := [.u64]) (ks2 := [.u64]) rfl (by simp) (eqc_23.up (by decide)) (eqf_cons (ks1 := [.u64]) (ks2 := []) rfl (by simp) (eqc_23.up (by decide)) (eqf_nil _))))
theorem eqt_72 : EqT Try.prog 72 [.u64, .u64] := ⟨by kernel_rfl, agg_72, 2, by decide, eqc_72⟩

set_option maxHeartbeats 2000000 in
theorem ref03_SameHeader_w (p0 : THeader) (p1 : THeader) (vp0_0 : Value) (zp0_0 gp0_0 op0_0 : Nat) (vp0_2 : Value) (zp0_2 gp0_2 op0_2 : Nat) (vp1_0 : Value) (zp1_0 gp1_0 op1_0 : Nat) (vp1_2 : Value) (zp1_2 gp1_2 op1_2 : Nat) (r : Bool) (hm : ref03_SameHeader p0 p1 = some r) (w : World) (hp0_0 : Rd w zp0_0 gp0_0 op0_0 18 vp0_0 (p0.Items.map TItem.cs)) (hp0_2 : Rd w zp0_2 gp0_2 op0_2 2 vp0_2 (p0.Points.map TPoint.cs)) (hp1_0 : Rd w zp1_0 gp1_0 op1_0 18 vp1_0 (p1.Items.map TItem.cs)) (hp1_2 : Rd w zp1_2 gp1_2 op1_2 2 vp1_2 (p1.Points.map TPoint.cs))  :
    Calls Try.prog 25 [.agg (THeader.cs p0 vp0_0 vp0_2).toArray, .agg (THeader.cs p1 vp1_0 vp1_2).toArray].toArray w fun e w' => ∃ v, e = .returned v ∧ (v = .bool r ∧ Gr w w') := by
  have lt1 := hp0_0.lth
  have lt2 := hp0_2.lth
  have lt3 := hp1_0.lth
  have lt4 := hp1_2.lth
  unfold ref03_SameHeader at hm
  refine calls_of_sw (R := fun v w' => v = .bool r ∧ Gr w w') 80 Try.func25 rfl rfl rfl ?_
  refine sw_seq ?_
  -- region 0 ref.go:630
  refine sw_region [(0, 0), (1, 0), (2, 0)] rfl rfl rfl ?_
  refine sd_ev rfl rfl rfl (ev_box (cs := THeader.cs p0 vp0_0 vp0_2) rfl rfl) ?_
  rintro _ w1 ⟨b1, rfl, hbw1, Bw1, Gw1⟩
  have z5 := Gw1.size
  have lt6 := Bw1.lt
  refine sd_ev rfl rfl rfl (ev_box (cs := THeader.cs p1 vp1_0 vp1_2) rfl rfl) ?_
  rintro _ w2 ⟨b2, rfl, hbw2, Bw2, Gw2⟩
  have z7 := Gw2.size
  have lt8 := Bw2.lt
  refine sd_vv rfl rfl rfl (vv_assign rfl) ?_
  refine sd_done ?_
  refine sw_seq ?_
  have X9 : Gr w w2 := (Gr.trans (Gr.trans (Gr.refl w) Gw1) Gw2)
  refine sw_joinD (β := Bool) [7, 8, 9, 10, 11, 12, 13, 14, 15, 16, 17, 18, 19, 20, 21, 22, 23, 24, 25, 26, 27, 28, 29, 30, 31, 32, 33, 34, 35, 36, 37, 38, 39, 40, 41, 42, 43] (fun a1 => [(43, .bool a1)]) (fun a1 wr => (ref03_SameHeader_J1 p0 p1 a1 = some r) ∧ Kz [] w2 wr) ?_ ?_
  · clear hm; rintro a1 w3 ⟨hm, Kw3⟩
    have z10 := Kw3.size
    unfold ref03_SameHeader_J1 at hm
    refine sw_cond rfl (fun c1 => ?_) (fun c1 => ?_)
    ·
      replace hm := cnd_t c1 hm
      refine sw_seq ?_
      -- region 2 ref.go:632
      refine sw_region [(0, 0)] rfl rfl rfl ?_
      refine sd_vv rfl rfl rfl (vv_assign rfl) ?_
      refine sd_done ?_
      refine sw_ret ?_
      refine then_r ?_
      have X11 : Gr w w3 := (Gr.kz X9 Kw3)
      have hr := Option.some.inj hm
      subst hr
      refine ⟨_, _, rfl, res_1 rfl (rv_tmp rfl), ?_⟩
      exact ⟨rfl, X11⟩
    ·
      replace hm := cnd_f c1 hm
      refine sw_skip ?_
      refine then_n ?_
      refine sw_seq ?_
      refine sw_seq ?_
      -- region 3 ref.go:634
      refine sw_region [(0, 0)] rfl rfl rfl ?_
      refine sd_vv rfl rfl rfl (vv_assign rfl) ?_
      refine sd_done ?_
      refine sw_block ?_
      have X12 : Gr w w3 := (Gr.kz X9 Kw3)
      have B13 := (Rd.kz (Rd.gr (Rd.gr hp0_0 Gw1) Gw2) Kw3)
      have B14 := (Rd.kz (Rd.gr (Rd.gr hp0_2 Gw1) Gw2) Kw3)
      have B15 := (Rd.kz (Rd.gr (Rd.gr hp1_0 Gw1) Gw2) Kw3)
      have B16 := (Rd.kz (Rd.gr (Rd.gr hp1_2 Gw1) Gw2) Kw3)
      refine sw_loopD (α := Nat × Int) [4, 5, 44, 45, 46, 47, 48, 49, 50, 51, 52, 53, 54, 55, 56, 57, 58, 59, 60, 61] (fun ⟨n2, a3⟩ => [(4, .bool false), (5, .int .i64 a3)]) (fun ⟨n2, a3⟩ wr => (fixN (ref03_SameHeader_L2 p0 p1) n2 a3 = some r) ∧ Kz [] w3 wr) (fun ⟨n2, a3⟩ => n2) ⟨FUEL, 0⟩ ?_ ?_ ?_
      · repeat' first | exact trivial | refine ⟨rfl, ?_⟩
      · exact ⟨hm, Kz.refl _ _⟩
      · clear hm; rintro ⟨n2, a3⟩ w4 ⟨hm, Kw4⟩
        have z17 := Kw4.size
        have hb := fix_succ hm; clear hm; obtain ⟨n2, rfl, hm⟩ := hb
        generalize hrec2 : fixN (ref03_SameHeader_L2 p0 p1) n2 = rec2 at hm
        unfold ref03_SameHeader_L2 at hm
        try dsimp only at hm
        refine sw_seq ?_
        refine sw_seq ?_
        -- region 4 ref.go:634
        refine sw_region [(0, 0), (1, 0), (2, 0), (3, 0), (4, 0)] rfl rfl rfl ?_
        refine sd_vv rfl rfl rfl (vv_move rfl) ?_
        refine sd_vv rfl rfl rfl (vv_fieldAddr fa_28_0 rfl) ?_
        have B18 := (Bx.kz (Bx.kz (Bx.gr Bw1 Gw2) Kw3) Kw4)
        refine sd_vv rfl rfl rfl (vv_load1 (v := vp0_0) one_22 rfl B18 rfl) ?_
        have B19 := (Rd.kz B13 Kw4)
        refine sd_vv rfl rfl rfl (vv_lenT (l := p0.Items) (c := TItem.cs) Try.underlying22 rfl B19) ?_
        refine sd_vv rfl rfl rfl (vv_lss (a := a3) (b := (p0.Items.length : Int)) rfl rfl) ?_
        refine sd_done ?_
        refine sw_cond rfl (fun c2 => ?_) (fun c2 => ?_)
        ·
          replace hm := ite_t (of_decide_eq_true c2) hm
          refine sw_skip ?_
          refine then_n ?_
          refine sw_seq ?_
          refine sw_block ?_
          refine sw_seq ?_
          -- region 6 ref.go:635 DRAWS
          refine sw_drawN [([])] [] (.leaf [(0, 10), (1, 10), (2, 10), (3, 10), (4, 10), (5, 10), (6, 10), (7, 10), (8, 10), (9, 10), (10, 10)]) (by kernel_rfl) (by kernel_rfl) rfl (by kernel_rfl) ?_
          intro w5 Gw5 zw5
          refine sdz_leaf ?_
          refine dd_hn 0 rfl rfl rfl rfl (Kp.refl ([]) w5) (fun w hS => vv_fieldAddr fa_28_0 rfl) ?_
          have B20 := (Bx.gr B18 Gw5)
          refine dd_hn 0 rfl rfl rfl rfl (Kp.refl ([]) w5) (fun w hS => vv_load1 (v := vp0_0) one_22 rfl (Bx.kp B20 hS) rfl) ?_
          refine dd_hn 0 rfl rfl rfl rfl (Kp.refl ([]) w5) (fun w hS => vv_move rfl) ?_
          have hb := bnd hm; clear hm; obtain ⟨y4, hy4, hm⟩ := hb
          have B21 := (Rd.gr B19 Gw5)
          refine dd_hn 0 rfl rfl rfl rfl (Kp.refl ([]) w5) (fun w hS => vv_ixT (i := a3) Try.underlying22 (agg_108).siz rfl (Rd.kp B21 hS) rfl hy4) ?_
          refine dd_hn 0 rfl rfl rfl rfl (Kp.refl ([]) w5) (fun w hS => vv_elWT agg_108 rfl (Rd.kp B21 hS) hy4 (by first | rfl | omega)) ?_
          refine dd_hn 0 rfl rfl rfl rfl (Kp.refl ([]) w5) (fun w hS => vv_fieldAddr fa_28_0 rfl) ?_
          have B22 := (Bx.gr (Bx.kz (Bx.kz Bw2 Kw3) Kw4) Gw5)
          refine dd_hn 0 rfl rfl rfl rfl (Kp.refl ([]) w5) (fun w hS => vv_load1 (v := vp1_0) one_22 rfl (Bx.kp B22 hS) rfl) ?_
          refine dd_hn 0 rfl rfl rfl rfl (Kp.refl ([]) w5) (fun w hS => vv_move rfl) ?_
          have hb := bnd hm; clear hm; obtain ⟨y5, hy5, hm⟩ := hb
          have B23 := (Rd.gr (Rd.kz B15 Kw4) Gw5)
          refine dd_hn 0 rfl rfl rfl rfl (Kp.refl ([]) w5) (fun w hS => vv_ixT (i := a3) Try.underlying22 (agg_108).siz rfl (Rd.kp B23 hS) rfl hy5) ?_
          refine dd_hn 0 rfl rfl rfl rfl (Kp.refl ([]) w5) (fun w hS => vv_elWT agg_108 rfl (Rd.kp B23 hS) hy5 (by first | rfl | omega)) ?_
          refine dd_hn 0 rfl rfl rfl rfl (Kp.refl ([]) w5) (fun w hS => vv_neqS (cf := TItem.cs) (a := y4) (b := y5) eqt_108 rfl rfl rfl rfl (fun h => TItem.cs_inj h)) ?_
          refine sd_done ?_
          refine sw_cond rfl (fun c3 => ?_) (fun c3 => ?_)
          ·
            replace hm := ite_t (of_decide_eq_true c3) hm
            refine sw_seq ?_
            -- region 7 ref.go:636
            refine sw_region [(0, 0)] rfl rfl rfl ?_
            refine sd_vv rfl rfl rfl (vv_assign rfl) ?_
            refine sd_done ?_
            refine sw_ret ?_
            refine block_r ?_
            refine then_r ?_
            refine then_r ?_
            refine block_r ?_
            refine then_r ?_
            have X24 : Gr w w5 := (Gr.trans (Gr.kz X12 Kw4) Gw5)
            have hr := Option.some.inj hm
            subst hr
            refine ⟨_, _, rfl, res_1 rfl (rv_tmp rfl), ?_⟩
            exact ⟨rfl, X24⟩
          ·
            replace hm := ite_f (of_decide_eq_false c3) hm
            refine sw_skip ?_
            refine block_n ?_
            refine then_n ?_
            -- region 5 ref.go:634
            refine sw_region [(0, 0), (1, 0), (2, 0)] rfl rfl rfl ?_
            refine sd_vv rfl rfl rfl (vv_move rfl) ?_
            refine sd_vv rfl rfl rfl (vv_add (k := .i64) (a := a3) (b := 1) rfl rfl) ?_
            refine sd_vv rfl rfl rfl (vv_assign rfl) ?_
            refine sd_nil ?_
            have K_25 : Kz [] w3 w5 := (Kz.gr Kw4 Gw5)
            subst hrec2
            refine ⟨rfl, ⟨n2, w64 (a3 + 1)⟩, ?_, ⟨hm, K_25⟩, Nat.lt_succ_self _⟩
            repeat' first | exact trivial | refine ⟨rfl, ?_⟩
        ·
          replace hm := ite_f (of_decide_eq_false c2) hm
          refine sw_exit ?_
          refine then_x ?_
          refine then_x ?_
          refine block_x ?_
          refine then_n ?_
          refine sw_seq ?_
          refine sw_seq ?_
          -- region 8 ref.go:639
          refine sw_region [(0, 0)] rfl rfl rfl ?_
          refine sd_vv rfl rfl rfl (vv_assign rfl) ?_
          refine sd_done ?_
          refine sw_block ?_
          have X26 : Gr w w4 := (Gr.kz X12 Kw4)
          have B27 := (Rd.kz B14 Kw4)
          have B28 := (Rd.kz B15 Kw4)
          have B29 := (Rd.kz B16 Kw4)
          refine sw_loopD (α := Nat × Int) [4, 6, 62, 63, 64, 65, 66, 67, 68, 69, 70, 71, 72, 73, 74, 75, 76, 77, 78, 79] (fun ⟨n3, a7⟩ => [(4, .bool false), (6, .int .i64 a7)]) (fun ⟨n3, a7⟩ wr => (fixN (ref03_SameHeader_L3 p0 p1) n3 a7 = some r) ∧ Kz [] w4 wr) (fun ⟨n3, a7⟩ => n3) ⟨FUEL, 0⟩ ?_ ?_ ?_
          · repeat' first | exact trivial | refine ⟨rfl, ?_⟩
          · exact ⟨hm, Kz.refl _ _⟩
          · clear hm; rintro ⟨n3, a7⟩ w6 ⟨hm, Kw6⟩
            have z30 := Kw6.size
            have hb := fix_succ hm; clear hm; obtain ⟨n3, rfl, hm⟩ := hb
            generalize hrec3 : fixN (ref03_SameHeader_L3 p0 p1) n3 = rec3 at hm
            unfold ref03_SameHeader_L3 at hm
            try dsimp only at hm
            refine sw_seq ?_
            refine sw_seq ?_
            -- region 9 ref.go:639
            refine sw_region [(0, 0), (1, 0), (2, 0), (3, 0), (4, 0)] rfl rfl rfl ?_
            refine sd_vv rfl rfl rfl (vv_move rfl) ?_
            refine sd_vv rfl rfl rfl (vv_fieldAddr fa_28_2 rfl) ?_
            have B31 := (Bx.kz B18 Kw6)
            refine sd_vv rfl rfl rfl (vv_load1 (v := vp0_2) one_24 rfl B31 rfl) ?_
            have B32 := (Rd.kz B27 Kw6)
            refine sd_vv rfl rfl rfl (vv_lenT (l := p0.Points) (c := TPoint.cs) Try.underlying24 rfl B32) ?_
            refine sd_vv rfl rfl rfl (vv_lss (a := a7) (b := (p0.Points.length : Int)) rfl rfl) ?_
            refine sd_done ?_
            refine sw_cond rfl (fun c4 => ?_) (fun c4 => ?_)
            ·
              replace hm := ite_t (of_decide_eq_true c4) hm
              refine sw_skip ?_
              refine then_n ?_
              refine sw_seq ?_
              refine sw_block ?_
              refine sw_seq ?_
              -- region 11 ref.go:640 DRAWS
              refine sw_drawN [([])] [] (.leaf [(0, 10), (1, 10), (2, 10), (3, 10), (4, 10), (5, 10), (6, 10), (7, 10), (8, 10), (9, 10), (10, 10)]) (by kernel_rfl) (by kernel_rfl) rfl (by kernel_rfl) ?_
              intro w7 Gw7 zw7
              refine sdz_leaf ?_
              refine dd_hn 0 rfl rfl rfl rfl (Kp.refl ([]) w7) (fun w hS => vv_fieldAddr fa_28_2 rfl) ?_
              have B33 := (Bx.gr B31 Gw7)
              refine dd_hn 0 rfl rfl rfl rfl (Kp.refl ([]) w7) (fun w hS => vv_load1 (v := vp0_2) one_24 rfl (Bx.kp B33 hS) rfl) ?_
              refine dd_hn 0 rfl rfl rfl rfl (Kp.refl ([]) w7) (fun w hS => vv_move rfl) ?_
              have hb := bnd hm; clear hm; obtain ⟨y8, hy8, hm⟩ := hb
              have B34 := (Rd.gr B32 Gw7)
              refine dd_hn 0 rfl rfl rfl rfl (Kp.refl ([]) w7) (fun w hS => vv_ixT (i := a7) Try.underlying24 (agg_72).siz rfl (Rd.kp B34 hS) rfl hy8) ?_
              refine dd_hn 0 rfl rfl rfl rfl (Kp.refl ([]) w7) (fun w hS => vv_elWT agg_72 rfl (Rd.kp B34 hS) hy8 (by first | rfl | omega)) ?_
              refine dd_hn 0 rfl rfl rfl rfl (Kp.refl ([]) w7) (fun w hS => vv_fieldAddr fa_28_2 rfl) ?_
              have B35 := (Bx.gr (Bx.kz (Bx.kz (Bx.kz Bw2 Kw3) Kw4) Kw6) Gw7)
              refine dd_hn 0 rfl rfl rfl rfl (Kp.refl ([]) w7) (fun w hS => vv_load1 (v := vp1_2) one_24 rfl (Bx.kp B35 hS) rfl) ?_
              refine dd_hn 0 rfl rfl rfl rfl (Kp.refl ([]) w7) (fun w hS => vv_move rfl) ?_
              have hb := bnd hm; clear hm; obtain ⟨y9, hy9, hm⟩ := hb
              have B36 := (Rd.gr (Rd.kz B29 Kw6) Gw7)
              refine dd_hn 0 rfl rfl rfl rfl (Kp.refl ([]) w7) (fun w hS => vv_ixT (i := a7) Try.underlying24 (agg_72).siz rfl (Rd.kp B36 hS) rfl hy9) ?_
              refine dd_hn 0 rfl rfl rfl rfl (Kp.refl ([]) w7) (fun w hS => vv_elWT agg_72 rfl (Rd.kp B36 hS) hy9 (by first | rfl | omega)) ?_
              refine dd_hn 0 rfl rfl rfl rfl (Kp.refl ([]) w7) (fun w hS => vv_neqS (cf := TPoint.cs) (a := y8) (b := y9) eqt_72 rfl rfl rfl rfl (fun h => TPoint.cs_inj h)) ?_
              refine sd_done ?_
              refine sw_cond rfl (fun c5 => ?_) (fun c5 => ?_)
              ·
                replace hm := ite_t (of_decide_eq_true c5) hm
                refine sw_seq ?_
                -- region 12 ref.go:641
                refine sw_region [(0, 0)] rfl rfl rfl ?_
                refine sd_vv rfl rfl rfl (vv_assign rfl) ?_
                refine sd_done ?_
                refine sw_ret ?_
                refine block_r ?_
                refine then_r ?_
                refine then_r ?_
                refine block_r ?_
                refine then_r ?_
                have X37 : Gr w w7 := (Gr.trans (Gr.kz X26 Kw6) Gw7)
                have hr := Option.some.inj hm
                subst hr
                refine ⟨_, _, rfl, res_1 rfl (rv_tmp rfl), ?_⟩
                exact ⟨rfl, X37⟩
              ·
                replace hm := ite_f (of_decide_eq_false c5) hm
                refine sw_skip ?_
                refine block_n ?_
                refine then_n ?_
                -- region 10 ref.go:639
                refine sw_region [(0, 0), (1, 0), (2, 0)] rfl rfl rfl ?_
                refine sd_vv rfl rfl rfl (vv_move rfl) ?_
                refine sd_vv rfl rfl rfl (vv_add (k := .i64) (a := a7) (b := 1) rfl rfl) ?_
                refine sd_vv rfl rfl rfl (vv_assign rfl) ?_
                refine sd_nil ?_
                have K_38 : Kz [] w4 w7 := (Kz.gr Kw6 Gw7)
                subst hrec3
                refine ⟨rfl, ⟨n3, w64 (a7 + 1)⟩, ?_, ⟨hm, K_38⟩, Nat.lt_succ_self _⟩
                repeat' first | exact trivial | refine ⟨rfl, ?_⟩
            ·
              replace hm := ite_f (of_decide_eq_false c4) hm
              refine sw_exit ?_
              refine then_x ?_
              refine then_x ?_
              refine block_x ?_
              refine then_n ?_
              refine sw_seq ?_
              -- region 13 ref.go:644
              refine sw_region [(0, 0)] rfl rfl rfl ?_
              refine sd_vv rfl rfl rfl (vv_assign rfl) ?_
              refine sd_done ?_
              refine sw_ret ?_
              have X39 : Gr w w6 := (Gr.kz X26 Kw6)
              have hr := Option.some.inj hm
              subst hr
              refine ⟨_, _, rfl, res_1 rfl (rv_tmp rfl), ?_⟩
              exact ⟨rfl, X39⟩
  ·
    -- region 1 ref.go:631
    refine sw_region [(0, 0), (1, 0), (2, 0), (3, 0), (4, 0), (5, 0), (6, 0), (7, 0), (8, 0), (9, 0), (10, 0), (11, 0), (12, 0), (13, 0), (14, 0), (15, 0), (16, 0), (17, 0), (18, 0), (19, 0), (20, 0), (21, 0), (22, 0), (23, 0), (24, 0), (25, 0), (26, 0), (27, 0), (28, 0), (29, 0), (30, 0), (31, 0), (32, 0), (33, 0), (34, 0), (35, 0), (36, 0)] rfl rfl rfl ?_
    refine sd_vv rfl rfl rfl (vv_fieldAddr fa_28_0 rfl) ?_
    have B40 := (Bx.gr Bw1 Gw2)
    refine sd_vv rfl rfl rfl (vv_load1 (v := vp0_0) one_22 rfl B40 rfl) ?_
    have B41 := (Rd.gr (Rd.gr hp0_0 Gw1) Gw2)
    refine sd_vv rfl rfl rfl (vv_lenT (l := p0.Items) (c := TItem.cs) Try.underlying22 rfl B41) ?_
    refine sd_vv rfl rfl rfl (vv_fieldAddr fa_28_0 rfl) ?_
    refine sd_vv rfl rfl rfl (vv_load1 (v := vp1_0) one_22 rfl Bw2 rfl) ?_
    have B42 := (Rd.gr (Rd.gr hp1_0 Gw1) Gw2)
    refine sd_vv rfl rfl rfl (vv_lenT (l := p1.Items) (c := TItem.cs) Try.underlying22 rfl B42) ?_
    refine sd_vv rfl rfl rfl (vv_neq (a := (p0.Items.length : Int)) (b := (p1.Items.length : Int)) rfl rfl) ?_
    refine sd_split rfl rfl rfl (vv_move rfl) (fun c6 => ?_) (fun c6 => ?_)
    ·
      replace hm := ite_t (of_decide_eq_true c6) hm
      refine sd_skip rfl rfl rfl ?_
      refine sd_skip rfl rfl rfl ?_
      refine sd_skip rfl rfl rfl ?_
      refine sd_skip rfl rfl rfl ?_
      refine sd_skip rfl rfl rfl ?_
      refine sd_skip rfl rfl rfl ?_
      refine sd_skip rfl rfl rfl ?_
      refine sd_vv rfl rfl rfl (vv_pickT rfl rfl) ?_
      refine sd_vv rfl rfl rfl (vv_move rfl) ?_
      refine sd_skip rfl rfl rfl ?_
      refine sd_skip rfl rfl rfl ?_
      refine sd_skip rfl rfl rfl ?_
      refine sd_skip rfl rfl rfl ?_
      refine sd_skip rfl rfl rfl ?_
      refine sd_vv rfl rfl rfl (vv_pickT rfl rfl) ?_
      refine sd_vv rfl rfl rfl (vv_move rfl) ?_
      refine sd_skip rfl rfl rfl ?_
      refine sd_skip rfl rfl rfl ?_
      refine sd_skip rfl rfl rfl ?_
      refine sd_skip rfl rfl rfl ?_
      refine sd_skip rfl rfl rfl ?_
      refine sd_vv rfl rfl rfl (vv_pickT rfl rfl) ?_
      refine sd_vv rfl rfl rfl (vv_move rfl) ?_
      refine sd_skip rfl rfl rfl ?_
      refine sd_skip rfl rfl rfl ?_
      refine sd_skip rfl rfl rfl ?_
      refine sd_skip rfl rfl rfl ?_
      refine sd_skip rfl rfl rfl ?_
      refine sd_vv rfl rfl rfl (vv_pickT rfl rfl) ?_
      refine sd_nil ?_
      have K_43 : Kz [] w2 w2 := (Kz.refl _ _)
      refine ⟨rfl, true, ?_, hm, K_43⟩
      repeat' first | exact trivial | refine ⟨rfl, ?_⟩
    ·
      replace hm := ite_f (of_decide_eq_false c6) hm
      refine sd_vv rfl rfl rfl (vv_fieldAddr fa_28_2 rfl) ?_
      refine sd_vv rfl rfl rfl (vv_load1 (v := vp0_2) one_24 rfl B40 rfl) ?_
      have B44 := (Rd.gr (Rd.gr hp0_2 Gw1) Gw2)
      refine sd_vv rfl rfl rfl (vv_lenT (l := p0.Points) (c := TPoint.cs) Try.underlying24 rfl B44) ?_
      refine sd_vv rfl rfl rfl (vv_fieldAddr fa_28_2 rfl) ?_
      refine sd_vv rfl rfl rfl (vv_load1 (v := vp1_2) one_24 rfl Bw2 rfl) ?_
      have B45 := (Rd.gr (Rd.gr hp1_2 Gw1) Gw2)
      refine sd_vv rfl rfl rfl (vv_lenT (l := p1.Points) (c := TPoint.cs) Try.underlying24 rfl B45) ?_
      refine sd_vv rfl rfl rfl (vv_neq (a := (p0.Points.length : Int)) (b := (p1.Points.length : Int)) rfl rfl) ?_
      refine sd_vv rfl rfl rfl (vv_pickF rfl rfl) ?_
      refine sd_split rfl rfl rfl (vv_move rfl) (fun c7 => ?_) (fun c7 => ?_)
      ·
        replace hm := ite_t (of_decide_eq_true c7) hm
        refine sd_skip rfl rfl rfl ?_
        refine sd_skip rfl rfl rfl ?_
        refine sd_skip rfl rfl rfl ?_
        refine sd_skip rfl rfl rfl ?_
        refine sd_skip rfl rfl rfl ?_
        refine sd_vv rfl rfl rfl (vv_pickT rfl rfl) ?_
        refine sd_vv rfl rfl rfl (vv_move rfl) ?_
        refine sd_skip rfl rfl rfl ?_
        refine sd_skip rfl rfl rfl ?_
        refine sd_skip rfl rfl rfl ?_
        refine sd_skip rfl rfl rfl ?_
        refine sd_skip rfl rfl rfl ?_
        refine sd_vv rfl rfl rfl (vv_pickT rfl rfl) ?_
        refine sd_vv rfl rfl rfl (vv_move rfl) ?_
        refine sd_skip rfl rfl rfl ?_
        refine sd_skip rfl rfl rfl ?_
        refine sd_skip rfl rfl rfl ?_
        refine sd_skip rfl rfl rfl ?_
        refine sd_skip rfl rfl rfl ?_
        refine sd_vv rfl rfl rfl (vv_pickT rfl rfl) ?_
        refine sd_nil ?_
        have K_46 : Kz [] w2 w2 := (Kz.refl _ _)
        refine ⟨rfl, true, ?_, hm, K_46⟩
        repeat' first | exact trivial | refine ⟨rfl, ?_⟩
      ·
        replace hm := ite_f (of_decide_eq_false c7) hm
        refine sd_vv rfl rfl rfl (vv_fieldAddr fa_28_1 rfl) ?_
        refine sd_vv rfl rfl rfl (vv_load1 (v := wv p0.Base) one_23 rfl B40 rfl) ?_
        refine sd_vv rfl rfl rfl (vv_fieldAddr fa_28_1 rfl) ?_
        refine sd_vv rfl rfl rfl (vv_load1 (v := wv p1.Base) one_23 rfl Bw2 rfl) ?_
        refine sd_vv rfl rfl rfl (vv_neqU (c := p0.Base) (d := p1.Base) rfl rfl) ?_
        refine sd_vv rfl rfl rfl (vv_pickF rfl rfl) ?_
        refine sd_split rfl rfl rfl (vv_move rfl) (fun c8 => ?_) (fun c8 => ?_)
        ·
          replace hm := ite_t (of_decide_eq_true c8) hm
          refine sd_skip rfl rfl rfl ?_
          refine sd_skip rfl rfl rfl ?_
          refine sd_skip rfl rfl rfl ?_
          refine sd_skip rfl rfl rfl ?_
          refine sd_skip rfl rfl rfl ?_
          refine sd_vv rfl rfl rfl (vv_pickT rfl rfl) ?_
          refine sd_vv rfl rfl rfl (vv_move rfl) ?_
          refine sd_skip rfl rfl rfl ?_
          refine sd_skip rfl rfl rfl ?_
          refine sd_skip rfl rfl rfl ?_
          refine sd_skip rfl rfl rfl ?_
          refine sd_skip rfl rfl rfl ?_
          refine sd_vv rfl rfl rfl (vv_pickT rfl rfl) ?_
          refine sd_nil ?_
          have K_47 : Kz [] w2 w2 := (Kz.refl _ _)
          refine ⟨rfl, true, ?_, hm, K_47⟩
          repeat' first | exact trivial | refine ⟨rfl, ?_⟩
        ·
          replace hm := ite_f (of_decide_eq_false c8) hm
          refine sd_vv rfl rfl rfl (vv_fieldAddr fa_28_3 rfl) ?_
          refine sd_vv rfl rfl rfl (vv_loadM (vs := kb p0.Box) agg_26 rfl B40 rfl rfl) ?_
          refine sd_vv rfl rfl rfl (vv_fieldAddr fa_28_3 rfl) ?_
          refine sd_vv rfl rfl rfl (vv_loadM (vs := kb p1.Box) agg_26 rfl Bw2 rfl rfl) ?_
          refine sd_vv rfl rfl rfl (vv_neqS (cf := kb) (a := p0.Box) (b := p1.Box) eqt_26 rfl rfl rfl rfl (fun h => kb_inj h)) ?_
          refine sd_vv rfl rfl rfl (vv_pickF rfl rfl) ?_
          refine sd_split rfl rfl rfl (vv_move rfl) (fun c9 => ?_) (fun c9 => ?_)
          ·
            replace hm := ite_t (of_decide_eq_true c9) hm
            refine sd_skip rfl rfl rfl ?_
            refine sd_skip rfl rfl rfl ?_
            refine sd_skip rfl rfl rfl ?_
            refine sd_skip rfl rfl rfl ?_
            refine sd_skip rfl rfl rfl ?_
            refine sd_vv rfl rfl rfl (vv_pickT rfl rfl) ?_
            refine sd_nil ?_
            have K_48 : Kz [] w2 w2 := (Kz.refl _ _)
            refine ⟨rfl, true, ?_, hm, K_48⟩
            repeat' first | exact trivial | refine ⟨rfl, ?_⟩
          ·
            replace hm := ite_f (of_decide_eq_false c9) hm
            refine sd_vv rfl rfl rfl (vv_fieldAddr fa_28_4 rfl) ?_
            refine sd_vv rfl rfl rfl (vv_loadM (vs := kb p0.Check) agg_26 rfl B40 rfl rfl) ?_
            refine sd_vv rfl rfl rfl (vv_fieldAddr fa_28_4 rfl) ?_
            refine sd_vv rfl rfl rfl (vv_loadM (vs := kb p1.Check) agg_26 rfl Bw2 rfl rfl) ?_
            refine sd_vv rfl rfl rfl (vv_neqS (cf := kb) (a := p0.Check) (b := p1.Check) eqt_26 rfl rfl rfl rfl (fun h => kb_inj h)) ?_
            refine sd_vv rfl rfl rfl (vv_pickF rfl rfl) ?_
            refine sd_nil ?_
            have K_49 : Kz [] w2 w2 := (Kz.refl _ _)
            refine ⟨rfl, (decide (p0.Check ≠ p1.Check)), ?_, hm, K_49⟩
            repeat' first | exact trivial | refine ⟨rfl, ?_⟩
end Go.Proofs.Ytecempahccgijaa.Mx
