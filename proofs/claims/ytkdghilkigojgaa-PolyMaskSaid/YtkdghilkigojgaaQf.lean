/- Walks that follow mirrors: Qf. Printed by mx.py. -/
import Derived.Test.YtkdghilkigojgaaXw
import Derived.Test.YtkdghilkigojgaaQfM
set_option linter.unusedVariables false
set_option linter.unusedSimpArgs false
set_option maxRecDepth 100000
namespace Go.Proofs.Ytkdghilkigojgaa.Mx
open Go Go.RowKit Go.Sx
theorem en_49 : En Try.prog 49 := fun _ _ => by kernel_rfl
theorem en_29 : En Try.prog 29 := fun _ _ => by kernel_rfl

set_option maxHeartbeats 2000000 in
theorem law04_PolyMask_w (p0 : W2) (p1 : TScheme) (p2 : List Int) (p3 : W2) (p4 : BitVec 64) (vp2 : Value) (zp2 gp2 op2 : Nat) (r : Bool) (hm : law04_PolyMask p0 p1 p2 p3 p4 = some r) (w : World) (hp2 : Rd w zp2 gp2 op2 1 vp2 (p2.map ic))  :
    Calls Try.prog 17 [kv p0, .agg (TScheme.cs p1).toArray, vp2, kv p3, wv p4].toArray w fun e w' => ∃ v, e = .returned v ∧ (v = .bool r ∧ Gr w w') := by
  have lt1 := hp2.lth
  unfold law04_PolyMask at hm
  refine calls_of_sw (R := fun v w' => v = .bool r ∧ Gr w w') 148 Try.func17 rfl rfl rfl ?_
  refine sw_seq ?_
  -- region 0 outright.go:238
  refine sw_region [(0, 0), (1, 0), (2, 0), (3, 0)] rfl rfl rfl ?_
  refine sd_ev rfl rfl rfl (ev_box (cs := kb p0) rfl rfl) ?_
  rintro _ w1 ⟨b1, rfl, hbw1, Bw1, Gw1⟩
  have z2 := Gw1.size
  have lt3 := Bw1.lt
  refine sd_ev rfl rfl rfl (ev_box (cs := TScheme.cs p1) rfl rfl) ?_
  rintro _ w2 ⟨b2, rfl, hbw2, Bw2, Gw2⟩
  have z4 := Gw2.size
  have lt5 := Bw2.lt
  refine sd_ev rfl rfl rfl (ev_box (cs := kb p3) rfl rfl) ?_
  rintro _ w3 ⟨b3, rfl, hbw3, Bw3, Gw3⟩
  have z6 := Gw3.size
  have lt7 := Bw3.lt
  refine sd_vv rfl rfl rfl (vv_assign rfl) ?_
  refine sd_done ?_
  refine sw_seq ?_
  -- region 1 outright.go:239
  refine sw_region [(0, 0), (1, 0)] rfl rfl rfl ?_
  have hb := bnd hm; clear hm; obtain ⟨x1, hx1, hm⟩ := hb
  refine sd_ev rfl rfl rfl (ev_call en_49 rfl (law04_alive_w _ hx1 _)) ?_
  rintro _ w4 ⟨rfl, Gw4⟩
  have z8 := Gw4.size
  refine sd_vv rfl rfl rfl (vv_assign rfl) ?_
  refine sd_done ?_
  refine sw_seq ?_
  -- region 2 outright.go:240
  refine sw_region [(0, 0), (1, 0), (2, 0), (3, 0), (4, 0), (5, 0), (6, 0), (7, 0), (8, 0), (9, 0), (10, 0), (11, 0)] rfl rfl rfl ?_
  have B9 := (Bx.gr (Bx.gr (Bx.gr Bw1 Gw2) Gw3) Gw4)
  refine sd_vv rfl rfl rfl (vv_loadW agg_23 rfl B9 rfl) ?_
  have B10 := (Bx.gr (Bx.gr Bw2 Gw3) Gw4)
  refine sd_vv rfl rfl rfl (vv_loadW agg_28 rfl B10 rfl) ?_
  refine sd_vv rfl rfl rfl (vv_move rfl) ?_
  have B11 := (Bx.gr Bw3 Gw4)
  refine sd_vv rfl rfl rfl (vv_loadW agg_23 rfl B11 rfl) ?_
  refine sd_vv rfl rfl rfl (vv_move rfl) ?_
  have B12 := (Rd.gr (Rd.gr (Rd.gr (Rd.gr hp2 Gw1) Gw2) Gw3) Gw4)
  have hb := bnd hm; clear hm; obtain ⟨x2, hx2, hm⟩ := hb
  refine sd_ev rfl rfl rfl (ev_call en_21 rfl (poly_Seal_w p0 p1 p2 p3 p4 _ _ _ _ _ hx2 _ B12)) ?_
  rintro _ w5 ⟨u5_r0_0, z5_r0_0, g5_r0_0, u5_r0_2, z5_r0_2, g5_r0_2, rfl, O5_r0_0, f5_r0_0, O5_r0_2, f5_r0_2, d5_0, Gw5⟩
  have z13 := Gw5.size
  have lt14 := O5_r0_0.lth
  have lt15 := O5_r0_2.lth
  refine sd_vv rfl rfl rfl (vv_move rfl) ?_
  refine sd_vv rfl rfl rfl (vv_extract rfl rfl) ?_
  refine sd_vv rfl rfl rfl (vv_extract rfl rfl) ?_
  refine sd_ev rfl rfl rfl (ev_alloc (cs := THeader.cs (THeader.mk [] 0#64 [] k0 k0) (.slice none 0 0) (.slice none 0 0)) zv_45 rfl) ?_
  rintro _ w6 ⟨b6, rfl, hbw6, Bw6, Gw6⟩
  have z16 := Gw6.size
  have lt17 := Bw6.lt
  have B18 := (Own.gr O5_r0_0 Gw6)
  have B19 := (Own.gr O5_r0_2 Gw6)
  refine sd_ev rfl rfl rfl (ev_stM (cs' := THeader.cs x2.1 u5_r0_0 u5_r0_2) (vs := THeader.cs x2.1 u5_r0_0 u5_r0_2) (agg_45).siz rfl rfl rfl rfl (THeader.cs_ones _ _ _ (Own.oneB B18) (Own.oneB B19)) Bw6 rfl rfl) ?_
  rintro _ w7 ⟨Bw7, Mw7⟩
  have z20 := Mw7.size
  refine sd_vv rfl rfl rfl (vv_assign rfl) ?_
  refine sd_done ?_
  refine sw_seq ?_
  refine sw_seq ?_
  -- region 3 outright.go:241
  refine sw_region [(0, 0), (1, 0)] rfl rfl rfl ?_
  refine sd_vv rfl rfl rfl (vv_move rfl) ?_
  refine sd_vv rfl rfl rfl (vv_neq (a := x2.2) (b := 0) rfl rfl) ?_
  refine sd_done ?_
  refine sw_cond rfl (fun c1 => ?_) (fun c1 => ?_)
  ·
    replace hm := ite_t (of_decide_eq_true c1) hm
    refine sw_seq ?_
    -- region 4 outright.go:242
    refine sw_region [(0, 0), (1, 0)] rfl rfl rfl ?_
    refine sd_vv rfl rfl rfl (vv_move rfl) ?_
    refine sd_vv rfl rfl rfl (vv_assign rfl) ?_
    refine sd_done ?_
    refine sw_ret ?_
    refine then_r ?_
    have X21 : Gr w w7 := (Gr.md (Gr.trans (Gr.trans (Gr.trans (Gr.trans (Gr.trans (Gr.trans (Gr.refl w) Gw1) Gw2) Gw3) Gw4) Gw5) Gw6) Mw7)
    have hr := Option.some.inj hm
    subst hr
    refine ⟨_, _, rfl, res_1 rfl (rv_tmp rfl), ?_⟩
    exact ⟨rfl, X21⟩
  ·
    replace hm := ite_f (of_decide_eq_false c1) hm
    refine sw_skip ?_
    refine then_n ?_
    refine sw_seq ?_
    -- region 5 outright.go:244
    refine sw_region [(0, 0), (1, 0), (2, 0), (3, 0), (4, 0), (5, 0), (6, 0), (7, 0)] rfl rfl rfl ?_
    have B22 := (Bx.md (Bx.gr (Bx.gr B9 Gw5) Gw6) Mw7)
    refine sd_vv rfl rfl rfl (vv_loadW agg_23 rfl B22 rfl) ?_
    have B23 := (Bx.md (Bx.gr (Bx.gr B10 Gw5) Gw6) Mw7)
    refine sd_vv rfl rfl rfl (vv_loadW agg_28 rfl B23 rfl) ?_
    have hb := bnd hm; clear hm; obtain ⟨x3, hx3, hm⟩ := hb
    refine sd_ev rfl rfl rfl (ev_call en_29 rfl (poly_Coefficients_w p0 p1 _ hx3 _)) ?_
    rintro _ w8 ⟨u8_r0_s, z8_r0_s, g8_r0_s, rfl, O8_r0_s, f8_r0_s, Gw8⟩
    have z24 := Gw8.size
    have lt25 := O8_r0_s.lth
    refine sd_vv rfl rfl rfl (vv_move rfl) ?_
    refine sd_vv rfl rfl rfl (vv_extract rfl rfl) ?_
    refine sd_vv rfl rfl rfl (vv_extract rfl rfl) ?_
    refine sd_vv rfl rfl rfl (vv_assign rfl) ?_
    refine sd_vv rfl rfl rfl (vv_assign rfl) ?_
    refine sd_done ?_
    refine sw_seq ?_
    -- region 6 outright.go:245
    refine sw_region [(0, 0), (1, 0), (2, 0), (3, 0), (4, 0), (5, 0), (6, 0), (7, 0)] rfl rfl rfl ?_
    have B26 := (Bx.gr B23 Gw8)
    refine sd_vv rfl rfl rfl (vv_loadW agg_28 rfl B26 rfl) ?_
    refine sd_vv rfl rfl rfl (vv_move rfl) ?_
    have hb := bnd hm; clear hm; obtain ⟨x4, hx4, hm⟩ := hb
    refine sd_ev rfl rfl rfl (ev_call en_34 rfl (poly_Value_w p1 x3.1 0#64 _ _ _ _ _ hx4 _ (Own.rd O8_r0_s))) ?_
    rintro _ w9 ⟨rfl, Gw9⟩
    have z27 := Gw9.size
    refine sd_vv rfl rfl rfl (vv_move rfl) ?_
    refine sd_vv rfl rfl rfl (vv_extract rfl rfl) ?_
    refine sd_vv rfl rfl rfl (vv_extract rfl rfl) ?_
    refine sd_vv rfl rfl rfl (vv_assign rfl) ?_
    refine sd_vv rfl rfl rfl (vv_assign rfl) ?_
    refine sd_done ?_
    refine sw_seq ?_
    -- region 7 outright.go:246
    refine sw_region [(0, 0), (1, 0), (2, 0), (3, 0), (4, 0), (5, 0), (6, 0), (7, 0), (8, 0), (9, 0), (10, 0), (11, 0)] rfl rfl rfl ?_
    refine sd_vv rfl rfl rfl (vv_fieldAddr fa_45_1 rfl) ?_
    have B28 := (Bx.gr (Bx.gr Bw7 Gw8) Gw9)
    refine sd_vv rfl rfl rfl (vv_load1 (v := wv x2.1.Base) one_24 rfl B28 rfl) ?_
    refine sd_vv rfl rfl rfl (vv_move rfl) ?_
    refine sd_vv rfl rfl rfl (vv_fieldAddr fa_28_3 rfl) ?_
    refine sd_vv rfl rfl rfl (vv_fieldAddr fa_26_0 rfl) ?_
    have B29 := (Bx.gr B26 Gw9)
    refine sd_vv rfl rfl rfl (vv_load1 (v := wv p1.Group.P) one_24 rfl B29 rfl) ?_
    have hb := bnd hm; clear hm; obtain ⟨x5, hx5, hm⟩ := hb
    refine sd_ev rfl rfl rfl (ev_call en_61 rfl (number_PowMod_w x2.1.Base x4.1 p1.Group.P _ hx5 _)) ?_
    rintro _ w10 ⟨rfl, Gw10⟩
    have z30 := Gw10.size
    refine sd_vv rfl rfl rfl (vv_move rfl) ?_
    refine sd_vv rfl rfl rfl (vv_extract rfl rfl) ?_
    refine sd_vv rfl rfl rfl (vv_extract rfl rfl) ?_
    refine sd_vv rfl rfl rfl (vv_assign rfl) ?_
    refine sd_vv rfl rfl rfl (vv_assign rfl) ?_
    refine sd_done ?_
    refine sw_seq ?_
    -- region 8 outright.go:247
    refine sw_region [(0, 0), (1, 0), (2, 0), (3, 0), (4, 0), (5, 0), (6, 0), (7, 0), (8, 0), (9, 0), (10, 0), (11, 0), (12, 0), (13, 0)] rfl rfl rfl ?_
    refine sd_vv rfl rfl rfl (vv_fieldAddr fa_45_1 rfl) ?_
    have B31 := (Bx.gr B28 Gw10)
    refine sd_vv rfl rfl rfl (vv_load1 (v := wv x2.1.Base) one_24 rfl B31 rfl) ?_
    refine sd_vv rfl rfl rfl (vv_fieldAddr fa_28_3 rfl) ?_
    refine sd_vv rfl rfl rfl (vv_fieldAddr fa_26_1 rfl) ?_
    have B32 := (Bx.gr B29 Gw10)
    refine sd_vv rfl rfl rfl (vv_load1 (v := wv p1.Group.Q) one_24 rfl B32 rfl) ?_
    refine sd_vv rfl rfl rfl (vv_fieldAddr fa_28_3 rfl) ?_
    refine sd_vv rfl rfl rfl (vv_fieldAddr fa_26_0 rfl) ?_
    refine sd_vv rfl rfl rfl (vv_load1 (v := wv p1.Group.P) one_24 rfl B32 rfl) ?_
    have hb := bnd hm; clear hm; obtain ⟨x6, hx6, hm⟩ := hb
    refine sd_ev rfl rfl rfl (ev_call en_61 rfl (number_PowMod_w x2.1.Base p1.Group.Q p1.Group.P _ hx6 _)) ?_
    rintro _ w11 ⟨rfl, Gw11⟩
    have z33 := Gw11.size
    refine sd_vv rfl rfl rfl (vv_move rfl) ?_
    refine sd_vv rfl rfl rfl (vv_extract rfl rfl) ?_
    refine sd_vv rfl rfl rfl (vv_extract rfl rfl) ?_
    refine sd_vv rfl rfl rfl (vv_assign rfl) ?_
    refine sd_vv rfl rfl rfl (vv_assign rfl) ?_
    refine sd_done ?_
    refine sw_seq ?_
    have X34 : Gr w w11 := (Gr.trans (Gr.trans (Gr.trans (Gr.trans (Gr.md (Gr.trans (Gr.trans (Gr.trans (Gr.trans (Gr.trans (Gr.trans (Gr.refl w) Gw1) Gw2) Gw3) Gw4) Gw5) Gw6) Mw7) Gw8) Gw9) Gw10) Gw11)
    refine sw_joinD (β := Bool) [72, 73, 74, 75, 76, 77, 78, 79, 80, 81, 82, 83, 84, 85, 86, 87, 88, 89, 90, 91, 92, 93, 94, 95, 96, 97, 98, 99, 100] (fun a7 => [(100, .bool a7)]) (fun a7 wr => (law04_PolyMask_J1 p1 p3 x1 x2 x5 a7 = some r) ∧ Kz [] w11 wr) ?_ ?_
    · clear hm; rintro a7 w12 ⟨hm, Kw12⟩
      have z35 := Kw12.size
      unfold law04_PolyMask_J1 at hm
      refine sw_cond rfl (fun c2 => ?_) (fun c2 => ?_)
      ·
        replace hm := cnd_t c2 hm
        refine sw_seq ?_
        -- region 10 outright.go:249
        refine sw_region [(0, 0)] rfl rfl rfl ?_
        refine sd_vv rfl rfl rfl (vv_assign rfl) ?_
        refine sd_done ?_
        refine sw_ret ?_
        refine then_r ?_
        have X36 : Gr w w12 := (Gr.kz X34 Kw12)
        have hr := Option.some.inj hm
        subst hr
        refine ⟨_, _, rfl, res_1 rfl (rv_tmp rfl), ?_⟩
        exact ⟨rfl, X36⟩
      ·
        replace hm := cnd_f c2 hm
        refine sw_skip ?_
        refine then_n ?_
        refine sw_seq ?_
        refine sw_seq ?_
        -- region 11 outright.go:251
        refine sw_region [(0, 0)] rfl rfl rfl ?_
        refine sd_vv rfl rfl rfl (vv_assign rfl) ?_
        refine sd_done ?_
        refine sw_block ?_
        have X37 : Gr w w12 := (Gr.kz X34 Kw12)
        have B38 := (Rd.kz (Rd.gr (Rd.gr (Rd.gr (Rd.gr (Rd.md (Rd.gr (Rd.gr B12 Gw5) Gw6) Mw7 (tk1 ((pv_lt (A := (fun x => x ≠ b6)) lt1) : zp2 = 0 ∨ gp2 ≠ b6))) Gw8) Gw9) Gw10) Gw11) Kw12)
        have B39 := (Own.kz (Own.gr (Own.gr (Own.gr (Own.gr (Own.md B18 Mw7 (tk1 ((pv_lt (A := (fun x => x ≠ b6)) lt14) : z5_r0_0 = 0 ∨ g5_r0_0 ≠ b6))) Gw8) Gw9) Gw10) Gw11) Kw12)
        have B40 := (Own.kz (Own.gr (Own.gr (Own.gr (Own.gr (Own.md B19 Mw7 (tk1 ((pv_lt (A := (fun x => x ≠ b6)) lt15) : z5_r0_2 = 0 ∨ g5_r0_2 ≠ b6))) Gw8) Gw9) Gw10) Gw11) Kw12)
        have B41 := (Own.kz (Own.gr (Own.gr (Own.gr O8_r0_s Gw9) Gw10) Gw11) Kw12)
        refine sw_loopD (α := Nat × Int) [10, 22, 23, 24, 101, 102, 103, 104, 105, 106, 107, 108, 109, 110, 111, 112, 113, 114, 115, 116, 117, 118, 119, 120, 121, 122, 123, 124, 125, 126, 127, 128, 129] (fun ⟨n2, a9⟩ => [(10, .bool false), (22, .int .i64 a9)]) (fun ⟨n2, a9⟩ wr => (fixN (law04_PolyMask_L2 p1 p3 x1 x2 x5) n2 a9 = some r) ∧ Kz [] w12 wr) (fun ⟨n2, a9⟩ => n2) ⟨FUEL, 0⟩ ?_ ?_ ?_
        · repeat' first | exact trivial | refine ⟨rfl, ?_⟩
        · exact ⟨hm, Kz.refl _ _⟩
        · clear hm; rintro ⟨n2, a9⟩ w13 ⟨hm, Kw13⟩
          have z42 := Kw13.size
          have hb := fix_succ hm; clear hm; obtain ⟨n2, rfl, hm⟩ := hb
          generalize hrec2 : fixN (law04_PolyMask_L2 p1 p3 x1 x2 x5) n2 = rec2 at hm
          unfold law04_PolyMask_L2 at hm
          try dsimp only at hm
          refine sw_seq ?_
          refine sw_seq ?_
          -- region 12 outright.go:251
          refine sw_region [(0, 0), (1, 0), (2, 0), (3, 0), (4, 0)] rfl rfl rfl ?_
          refine sd_vv rfl rfl rfl (vv_move rfl) ?_
          refine sd_vv rfl rfl rfl (vv_fieldAddr fa_45_2 rfl) ?_
          have B43 := (Bx.kz (Bx.kz (Bx.gr B31 Gw11) Kw12) Kw13)
          refine sd_vv rfl rfl rfl (vv_load1 (v := u5_r0_2) one_43 rfl B43 rfl) ?_
          have B44 := (Own.kz B40 Kw13)
          refine sd_vv rfl rfl rfl (vv_lenT (l := x2.1.Points) (c := TPoint.cs) Try.underlying43 rfl (Own.rd B44)) ?_
          refine sd_vv rfl rfl rfl (vv_lss (a := a9) (b := (x2.1.Points.length : Int)) rfl rfl) ?_
          refine sd_done ?_
          refine sw_cond rfl (fun c3 => ?_) (fun c3 => ?_)
          ·
            replace hm := ite_t (of_decide_eq_true c3) hm
            refine sw_skip ?_
            refine then_n ?_
            refine sw_seq ?_
            refine sw_block ?_
            refine sw_seq ?_
            -- region 14 outright.go:252 DRAWS
            refine sw_drawN [([])] [] (.leaf [(0, 10), (1, 10), (2, 10), (3, 10), (4, 10), (5, 10), (6, 10), (7, 10), (8, 10), (9, 10), (10, 10), (11, 10), (12, 0), (13, 10), (14, 10), (15, 10), (16, 10), (17, 10)]) (by kernel_rfl) (by kernel_rfl) rfl (by kernel_rfl) ?_
            intro w14 Gw14 zw14
            refine sdz_leaf ?_
            refine dd_hn 0 rfl rfl rfl rfl (Kp.refl ([]) w14) (fun w hS => vv_fieldAddr fa_45_2 rfl) ?_
            have B45 := (Bx.gr B43 Gw14)
            refine dd_hn 0 rfl rfl rfl rfl (Kp.refl ([]) w14) (fun w hS => vv_load1 (v := u5_r0_2) one_43 rfl (Bx.kp B45 hS) rfl) ?_
            refine dd_hn 0 rfl rfl rfl rfl (Kp.refl ([]) w14) (fun w hS => vv_move rfl) ?_
            have hb := bnd hm; clear hm; obtain ⟨y10, hy10, hm⟩ := hb
            have B46 := (Own.gr B44 Gw14)
            refine dd_hn 0 rfl rfl rfl rfl (Kp.refl ([]) w14) (fun w hS => vv_ixT (i := a9) Try.underlying43 (agg_31).siz rfl (Own.rd (Own.kp B46 hS)) rfl hy10) ?_
            refine dd_hn 0 rfl rfl rfl rfl (Kp.refl ([]) w14) (fun w hS => vv_fieldAddr fa_31_1 rfl) ?_
            refine dd_hn 0 rfl rfl rfl rfl (Kp.refl ([]) w14) (fun w hS => vv_el1T (q := 1) (u := wv y10.Y) one_24 rfl (Own.rd (Own.kp B46 hS)) hy10 (by first | rfl | omega) rfl) ?_
            refine dd_hn 0 rfl rfl rfl rfl (Kp.refl ([]) w14) (fun w hS => vv_fieldAddr fa_28_3 rfl) ?_
            refine dd_hn 0 rfl rfl rfl rfl (Kp.refl ([]) w14) (fun w hS => vv_fieldAddr fa_26_1 rfl) ?_
            have B47 := (Bx.gr (Bx.kz (Bx.kz (Bx.gr B32 Gw11) Kw12) Kw13) Gw14)
            refine dd_hn 0 rfl rfl rfl rfl (Kp.refl ([]) w14) (fun w hS => vv_load1 (v := wv p1.Group.Q) one_24 rfl (Bx.kp B47 hS) rfl) ?_
            refine dd_hn 0 rfl rfl rfl rfl (Kp.refl ([]) w14) (fun w hS => vv_fieldAddr fa_28_3 rfl) ?_
            refine dd_hn 0 rfl rfl rfl rfl (Kp.refl ([]) w14) (fun w hS => vv_fieldAddr fa_26_0 rfl) ?_
            refine dd_hn 0 rfl rfl rfl rfl (Kp.refl ([]) w14) (fun w hS => vv_load1 (v := wv p1.Group.P) one_24 rfl (Bx.kp B47 hS) rfl) ?_
            have hb := bnd hm; clear hm; obtain ⟨x11, hx11, hm⟩ := hb
            refine dd_z [] rfl rfl rfl (ev_call en_61 rfl (number_PowMod_w y10.Y p1.Group.Q p1.Group.P _ hx11 _)) ⟨fun _ => tk0, trivial⟩ ?_
            rintro _ w15 ⟨rfl, Gw15⟩
            have z48 := Gw15.size
            refine ⟨Kz.ofGr Gw15, ?_⟩
            have S49 := (Kp.gr (Kp.refl ([]) w14) Gw15)
            refine dd_hn 0 rfl rfl rfl rfl S49 (fun w hS => vv_move rfl) ?_
            refine dd_hn 0 rfl rfl rfl rfl S49 (fun w hS => vv_extract rfl rfl) ?_
            refine dd_hn 0 rfl rfl rfl rfl S49 (fun w hS => vv_extract rfl rfl) ?_
            refine dd_hn 0 rfl rfl rfl rfl S49 (fun w hS => vv_assign rfl) ?_
            refine dd_hn 0 rfl rfl rfl rfl S49 (fun w hS => vv_assign rfl) ?_
            refine sd_done ?_
            have X50 : Gr w w15 := (Gr.trans (Gr.trans (Gr.kz X37 Kw13) Gw14) Gw15)
            refine sw_joinD (β := Bool) [124, 125, 126, 127, 128, 129] (fun a12 => [(129, .bool a12)]) (fun a12 wr => (law04_PolyMask_J3 a9 rec2 a12 = some r) ∧ Kz [] w15 wr) ?_ ?_
            · clear hm; rintro a12 w16 ⟨hm, Kw16⟩
              have z51 := Kw16.size
              unfold law04_PolyMask_J3 at hm
              refine sw_cond rfl (fun c4 => ?_) (fun c4 => ?_)
              ·
                replace hm := cnd_t c4 hm
                refine sw_seq ?_
                -- region 16 outright.go:254
                refine sw_region [(0, 0)] rfl rfl rfl ?_
                refine sd_vv rfl rfl rfl (vv_assign rfl) ?_
                refine sd_done ?_
                refine sw_ret ?_
                refine block_r ?_
                refine then_r ?_
                refine then_r ?_
                refine block_r ?_
                refine then_r ?_
                have X52 : Gr w w16 := (Gr.kz X50 Kw16)
                have hr := Option.some.inj hm
                subst hr
                refine ⟨_, _, rfl, res_1 rfl (rv_tmp rfl), ?_⟩
                exact ⟨rfl, X52⟩
              ·
                replace hm := cnd_f c4 hm
                refine sw_skip ?_
                refine block_n ?_
                refine then_n ?_
                -- region 13 outright.go:251
                refine sw_region [(0, 0), (1, 0), (2, 0)] rfl rfl rfl ?_
                refine sd_vv rfl rfl rfl (vv_move rfl) ?_
                refine sd_vv rfl rfl rfl (vv_add (k := .i64) (a := a9) (b := 1) rfl rfl) ?_
                refine sd_vv rfl rfl rfl (vv_assign rfl) ?_
                refine sd_nil ?_
                have K_53 : Kz [] w12 w16 := (Kz.kz (Kz.gr (Kz.gr Kw13 Gw14) Gw15) Kw16)
                subst hrec2
                refine ⟨rfl, ⟨n2, w64 (a9 + 1)⟩, ?_, ⟨hm, K_53⟩, Nat.lt_succ_self _⟩
                repeat' first | exact trivial | refine ⟨rfl, ?_⟩
            ·
              -- region 15 outright.go:253
              refine sw_region [(0, 0), (1, 0), (2, 0), (3, 0), (4, 0), (5, 0)] rfl rfl rfl ?_
              refine sd_vv rfl rfl rfl (vv_move rfl) ?_
              refine sd_vv rfl rfl rfl (vv_neq (a := x11.2) (b := 0) rfl rfl) ?_
              refine sd_split rfl rfl rfl (vv_move rfl) (fun c5 => ?_) (fun c5 => ?_)
              ·
                replace hm := ite_t (of_decide_eq_true c5) hm
                refine sd_skip rfl rfl rfl ?_
                refine sd_skip rfl rfl rfl ?_
                refine sd_vv rfl rfl rfl (vv_pickT rfl rfl) ?_
                refine sd_nil ?_
                have K_54 : Kz [] w15 w15 := (Kz.refl _ _)
                refine ⟨rfl, true, ?_, hm, K_54⟩
                repeat' first | exact trivial | refine ⟨rfl, ?_⟩
              ·
                replace hm := ite_f (of_decide_eq_false c5) hm
                refine sd_vv rfl rfl rfl (vv_move rfl) ?_
                refine sd_vv rfl rfl rfl (vv_neqU (c := x11.1) (d := 1#64) rfl rfl) ?_
                refine sd_vv rfl rfl rfl (vv_pickF rfl rfl) ?_
                refine sd_nil ?_
                have K_55 : Kz [] w15 w15 := (Kz.refl _ _)
                refine ⟨rfl, (decide (x11.1 ≠ 1#64)), ?_, hm, K_55⟩
                repeat' first | exact trivial | refine ⟨rfl, ?_⟩
          ·
            replace hm := ite_f (of_decide_eq_false c3) hm
            refine sw_exit ?_
            refine then_x ?_
            refine then_x ?_
            refine block_x ?_
            refine then_n ?_
            refine sw_seq ?_
            -- region 17 outright.go:257 DRAWS
            refine sw_drawN [([])] [] (.leaf [(0, 10), (1, 10), (2, 10), (3, 10), (4, 10), (5, 10), (7, 10), (6, 0), (8, 0), (9, 10), (10, 10), (11, 10), (12, 10), (13, 10), (14, 10), (15, 0), (16, 10), (17, 10), (18, 10)]) (by kernel_rfl) (by kernel_rfl) rfl (by kernel_rfl) ?_
            intro w17 Gw17 zw17
            refine sdz_leaf ?_
            refine dd_hn 0 rfl rfl rfl rfl (Kp.refl ([]) w17) (fun w hS => vv_move rfl) ?_
            refine dd_pn 0 rfl rfl rfl rfl (Kp.refl ([]) w17) (fun w hS => vv_move rfl) (fun c6 => ?_) (fun c6 => ?_)
            ·
              replace hm := cnd_t c6 hm
              refine dd_hn 0 rfl rfl rfl rfl (Kp.refl ([]) w17) (fun w hS => vv_fieldAddr fa_45_3 rfl) ?_
              have B56 := (Bx.gr B43 Gw17)
              refine dd_hn 0 rfl rfl rfl rfl (Kp.refl ([]) w17) (fun w hS => vv_loadM (vs := kb x2.1.Box) agg_23 rfl (Bx.kp B56 hS) rfl rfl) ?_
              refine dd_hn 0 rfl rfl rfl rfl (Kp.refl ([]) w17) (fun w hS => vv_buildZ bz_23) ?_
              refine dd_hn 0 rfl rfl rfl rfl (Kp.refl ([]) w17) (fun w hS => vv_move rfl) ?_
              have B57 := (Bx.gr (Bx.kz (Bx.kz (Bx.gr (Bx.gr (Bx.gr (Bx.gr (Bx.md (Bx.gr (Bx.gr B11 Gw5) Gw6) Mw7) Gw8) Gw9) Gw10) Gw11) Kw12) Kw13) Gw17)
              refine dd_hn 0 rfl rfl rfl rfl (Kp.refl ([]) w17) (fun w hS => vv_loadW agg_23 rfl (Bx.kp B57 hS) rfl) ?_
              refine dd_z [] rfl rfl rfl (ev_call en_52 rfl (derive_c k0 (un8 42#8) (un8_nn _) (un8_le _) x5.1 _)) ⟨fun _ => tk0, trivial⟩ ?_
              rintro _ w18 ⟨rfl, Gw18⟩
              have z58 := Gw18.size
              refine ⟨Kz.ofGr Gw18, ?_⟩
              refine dd_z [] rfl rfl rfl (ev_call en_62 rfl (encr_c (drv k0 (un8 42#8) x5.1) p3 _)) ⟨fun _ => tk0, trivial⟩ ?_
              rintro _ w19 ⟨rfl, Gw19⟩
              have z59 := Gw19.size
              refine ⟨Kz.ofGr Gw19, ?_⟩
              have S60 := (Kp.gr (Kp.gr (Kp.refl ([]) w17) Gw18) Gw19)
              refine dd_hn 0 rfl rfl rfl rfl S60 (fun w hS => vv_eqlS (cf := kb) (a := x2.1.Box) (b := encr (drv k0 (un8 42#8) x5.1) p3) eqt_23 rfl rfl rfl rfl (fun h => kb_inj h)) ?_
              refine dd_hn 0 rfl rfl rfl rfl S60 (fun w hS => vv_pickT rfl rfl) ?_
              refine dd_pn 0 rfl rfl rfl rfl S60 (fun w hS => vv_move rfl) (fun c7 => ?_) (fun c7 => ?_)
              ·
                replace hm := ite_t (of_decide_eq_true c7) hm
                refine dd_hn 0 rfl rfl rfl rfl S60 (fun w hS => vv_fieldAddr fa_45_4 rfl) ?_
                refine dd_hn 0 rfl rfl rfl rfl S60 (fun w hS => vv_loadM (vs := kb x2.1.Check) agg_23 rfl (Bx.kp B56 hS) rfl rfl) ?_
                refine dd_hn 0 rfl rfl rfl rfl S60 (fun w hS => vv_loadW agg_23 rfl (Bx.kp B57 hS) rfl) ?_
                refine dd_z [] rfl rfl rfl (ev_call en_52 rfl (derive_c p3 (un8 53#8) (un8_nn _) (un8_le _) 0#64 _)) ⟨fun _ => tk0, trivial⟩ ?_
                rintro _ w20 ⟨rfl, Gw20⟩
                have z61 := Gw20.size
                refine ⟨Kz.ofGr Gw20, ?_⟩
                have S62 := (Kp.gr S60 Gw20)
                refine dd_hn 0 rfl rfl rfl rfl S62 (fun w hS => vv_eqlS (cf := kb) (a := x2.1.Check) (b := drv p3 (un8 53#8) 0#64) eqt_23 rfl rfl rfl rfl (fun h => kb_inj h)) ?_
                refine dd_hn 0 rfl rfl rfl rfl S62 (fun w hS => vv_pickT rfl rfl) ?_
                refine dd_hn 0 rfl rfl rfl rfl S62 (fun w hS => vv_assign rfl) ?_
                refine sd_done ?_
                refine sw_ret ?_
                have X63 : Gr w w20 := (Gr.trans (Gr.trans (Gr.trans (Gr.trans (Gr.kz X37 Kw13) Gw17) Gw18) Gw19) Gw20)
                have hr := Option.some.inj hm
                subst hr
                refine ⟨_, _, rfl, res_1 rfl (rv_tmp rfl), ?_⟩
                exact ⟨rfl, X63⟩
              ·
                replace hm := ite_f (of_decide_eq_false c7) hm
                refine dd_sn 0 rfl rfl rfl rfl S60 ?_
                refine dd_sn 0 rfl rfl rfl rfl S60 ?_
                refine dd_sn 0 rfl rfl rfl rfl S60 ?_
                refine dd_sz rfl rfl rfl ?_
                refine dd_sn 0 rfl rfl rfl rfl S60 ?_
                refine dd_hn 0 rfl rfl rfl rfl S60 (fun w hS => vv_pickF rfl rfl) ?_
                refine dd_hn 0 rfl rfl rfl rfl S60 (fun w hS => vv_assign rfl) ?_
                refine sd_done ?_
                refine sw_ret ?_
                have X64 : Gr w w19 := (Gr.trans (Gr.trans (Gr.trans (Gr.kz X37 Kw13) Gw17) Gw18) Gw19)
                have hr := Option.some.inj hm
                subst hr
                refine ⟨_, _, rfl, res_1 rfl (rv_tmp rfl), ?_⟩
                exact ⟨rfl, X64⟩
            ·
              replace hm := cnd_f c6 hm
              refine dd_sn 0 rfl rfl rfl rfl (Kp.refl ([]) w17) ?_
              refine dd_sn 0 rfl rfl rfl rfl (Kp.refl ([]) w17) ?_
              refine dd_sn 0 rfl rfl rfl rfl (Kp.refl ([]) w17) ?_
              refine dd_sn 0 rfl rfl rfl rfl (Kp.refl ([]) w17) ?_
              refine dd_sn 0 rfl rfl rfl rfl (Kp.refl ([]) w17) ?_
              refine dd_sz rfl rfl rfl ?_
              refine dd_sz rfl rfl rfl ?_
              refine dd_sn 0 rfl rfl rfl rfl (Kp.refl ([]) w17) ?_
              refine dd_hn 0 rfl rfl rfl rfl (Kp.refl ([]) w17) (fun w hS => vv_pickF rfl rfl) ?_
              refine dd_hn 0 rfl rfl rfl rfl (Kp.refl ([]) w17) (fun w hS => vv_move rfl) ?_
              refine dd_sn 0 rfl rfl rfl rfl (Kp.refl ([]) w17) ?_
              refine dd_sn 0 rfl rfl rfl rfl (Kp.refl ([]) w17) ?_
              refine dd_sn 0 rfl rfl rfl rfl (Kp.refl ([]) w17) ?_
              refine dd_sz rfl rfl rfl ?_
              refine dd_sn 0 rfl rfl rfl rfl (Kp.refl ([]) w17) ?_
              refine dd_hn 0 rfl rfl rfl rfl (Kp.refl ([]) w17) (fun w hS => vv_pickF rfl rfl) ?_
              refine dd_hn 0 rfl rfl rfl rfl (Kp.refl ([]) w17) (fun w hS => vv_assign rfl) ?_
              refine sd_done ?_
              refine sw_ret ?_
              have X65 : Gr w w17 := (Gr.trans (Gr.kz X37 Kw13) Gw17)
              have hr := Option.some.inj hm
              subst hr
              refine ⟨_, _, rfl, res_1 rfl (rv_tmp rfl), ?_⟩
              exact ⟨rfl, X65⟩
    ·
      -- region 9 outright.go:248
      refine sw_region [(0, 0), (1, 0), (2, 0), (3, 0), (4, 0), (5, 0), (6, 0), (7, 0), (8, 0), (9, 0), (10, 0), (11, 0), (12, 0), (13, 0), (14, 0), (15, 0), (16, 0), (17, 0), (18, 0), (19, 0), (20, 0), (21, 0), (22, 0), (23, 0), (24, 0), (25, 0), (26, 0), (27, 0), (28, 0)] rfl rfl rfl ?_
      refine sd_vv rfl rfl rfl (vv_move rfl) ?_
      refine sd_vv rfl rfl rfl (vv_neq (a := x3.2) (b := 0) rfl rfl) ?_
      refine sd_split rfl rfl rfl (vv_move rfl) (fun c8 => ?_) (fun c8 => ?_)
      ·
        replace hm := ite_t (of_decide_eq_true c8) hm
        refine sd_skip rfl rfl rfl ?_
        refine sd_skip rfl rfl rfl ?_
        refine sd_vv rfl rfl rfl (vv_pickT rfl rfl) ?_
        refine sd_vv rfl rfl rfl (vv_move rfl) ?_
        refine sd_skip rfl rfl rfl ?_
        refine sd_skip rfl rfl rfl ?_
        refine sd_vv rfl rfl rfl (vv_pickT rfl rfl) ?_
        refine sd_vv rfl rfl rfl (vv_move rfl) ?_
        refine sd_skip rfl rfl rfl ?_
        refine sd_skip rfl rfl rfl ?_
        refine sd_vv rfl rfl rfl (vv_pickT rfl rfl) ?_
        refine sd_vv rfl rfl rfl (vv_move rfl) ?_
        refine sd_skip rfl rfl rfl ?_
        refine sd_skip rfl rfl rfl ?_
        refine sd_vv rfl rfl rfl (vv_pickT rfl rfl) ?_
        refine sd_vv rfl rfl rfl (vv_move rfl) ?_
        refine sd_skip rfl rfl rfl ?_
        refine sd_skip rfl rfl rfl ?_
        refine sd_skip rfl rfl rfl ?_
        refine sd_vv rfl rfl rfl (vv_pickT rfl rfl) ?_
        refine sd_vv rfl rfl rfl (vv_move rfl) ?_
        refine sd_skip rfl rfl rfl ?_
        refine sd_skip rfl rfl rfl ?_
        refine sd_skip rfl rfl rfl ?_
        refine sd_skip rfl rfl rfl ?_
        refine sd_vv rfl rfl rfl (vv_pickT rfl rfl) ?_
        refine sd_nil ?_
        have K_66 : Kz [] w11 w11 := (Kz.refl _ _)
        refine ⟨rfl, true, ?_, hm, K_66⟩
        repeat' first | exact trivial | refine ⟨rfl, ?_⟩
      ·
        replace hm := ite_f (of_decide_eq_false c8) hm
        refine sd_vv rfl rfl rfl (vv_move rfl) ?_
        refine sd_vv rfl rfl rfl (vv_neq (a := x4.2) (b := 0) rfl rfl) ?_
        refine sd_vv rfl rfl rfl (vv_pickF rfl rfl) ?_
        refine sd_split rfl rfl rfl (vv_move rfl) (fun c9 => ?_) (fun c9 => ?_)
        ·
          replace hm := ite_t (of_decide_eq_true c9) hm
          refine sd_skip rfl rfl rfl ?_
          refine sd_skip rfl rfl rfl ?_
          refine sd_vv rfl rfl rfl (vv_pickT rfl rfl) ?_
          refine sd_vv rfl rfl rfl (vv_move rfl) ?_
          refine sd_skip rfl rfl rfl ?_
          refine sd_skip rfl rfl rfl ?_
          refine sd_vv rfl rfl rfl (vv_pickT rfl rfl) ?_
          refine sd_vv rfl rfl rfl (vv_move rfl) ?_
          refine sd_skip rfl rfl rfl ?_
          refine sd_skip rfl rfl rfl ?_
          refine sd_vv rfl rfl rfl (vv_pickT rfl rfl) ?_
          refine sd_vv rfl rfl rfl (vv_move rfl) ?_
          refine sd_skip rfl rfl rfl ?_
          refine sd_skip rfl rfl rfl ?_
          refine sd_skip rfl rfl rfl ?_
          refine sd_vv rfl rfl rfl (vv_pickT rfl rfl) ?_
          refine sd_vv rfl rfl rfl (vv_move rfl) ?_
          refine sd_skip rfl rfl rfl ?_
          refine sd_skip rfl rfl rfl ?_
          refine sd_skip rfl rfl rfl ?_
          refine sd_skip rfl rfl rfl ?_
          refine sd_vv rfl rfl rfl (vv_pickT rfl rfl) ?_
          refine sd_nil ?_
          have K_67 : Kz [] w11 w11 := (Kz.refl _ _)
          refine ⟨rfl, true, ?_, hm, K_67⟩
          repeat' first | exact trivial | refine ⟨rfl, ?_⟩
        ·
          replace hm := ite_f (of_decide_eq_false c9) hm
          refine sd_vv rfl rfl rfl (vv_move rfl) ?_
          refine sd_vv rfl rfl rfl (vv_neq (a := x5.2) (b := 0) rfl rfl) ?_
          refine sd_vv rfl rfl rfl (vv_pickF rfl rfl) ?_
          refine sd_split rfl rfl rfl (vv_move rfl) (fun c10 => ?_) (fun c10 => ?_)
          ·
            replace hm := ite_t (of_decide_eq_true c10) hm
            refine sd_skip rfl rfl rfl ?_
            refine sd_skip rfl rfl rfl ?_
            refine sd_vv rfl rfl rfl (vv_pickT rfl rfl) ?_
            refine sd_vv rfl rfl rfl (vv_move rfl) ?_
            refine sd_skip rfl rfl rfl ?_
            refine sd_skip rfl rfl rfl ?_
            refine sd_vv rfl rfl rfl (vv_pickT rfl rfl) ?_
            refine sd_vv rfl rfl rfl (vv_move rfl) ?_
            refine sd_skip rfl rfl rfl ?_
            refine sd_skip rfl rfl rfl ?_
            refine sd_skip rfl rfl rfl ?_
            refine sd_vv rfl rfl rfl (vv_pickT rfl rfl) ?_
            refine sd_vv rfl rfl rfl (vv_move rfl) ?_
            refine sd_skip rfl rfl rfl ?_
            refine sd_skip rfl rfl rfl ?_
            refine sd_skip rfl rfl rfl ?_
            refine sd_skip rfl rfl rfl ?_
            refine sd_vv rfl rfl rfl (vv_pickT rfl rfl) ?_
            refine sd_nil ?_
            have K_68 : Kz [] w11 w11 := (Kz.refl _ _)
            refine ⟨rfl, true, ?_, hm, K_68⟩
            repeat' first | exact trivial | refine ⟨rfl, ?_⟩
          ·
            replace hm := ite_f (of_decide_eq_false c10) hm
            refine sd_vv rfl rfl rfl (vv_move rfl) ?_
            refine sd_vv rfl rfl rfl (vv_neq (a := x6.2) (b := 0) rfl rfl) ?_
            refine sd_vv rfl rfl rfl (vv_pickF rfl rfl) ?_
            refine sd_split rfl rfl rfl (vv_move rfl) (fun c11 => ?_) (fun c11 => ?_)
            ·
              replace hm := ite_t (of_decide_eq_true c11) hm
              refine sd_skip rfl rfl rfl ?_
              refine sd_skip rfl rfl rfl ?_
              refine sd_vv rfl rfl rfl (vv_pickT rfl rfl) ?_
              refine sd_vv rfl rfl rfl (vv_move rfl) ?_
              refine sd_skip rfl rfl rfl ?_
              refine sd_skip rfl rfl rfl ?_
              refine sd_skip rfl rfl rfl ?_
              refine sd_vv rfl rfl rfl (vv_pickT rfl rfl) ?_
              refine sd_vv rfl rfl rfl (vv_move rfl) ?_
              refine sd_skip rfl rfl rfl ?_
              refine sd_skip rfl rfl rfl ?_
              refine sd_skip rfl rfl rfl ?_
              refine sd_skip rfl rfl rfl ?_
              refine sd_vv rfl rfl rfl (vv_pickT rfl rfl) ?_
              refine sd_nil ?_
              have K_69 : Kz [] w11 w11 := (Kz.refl _ _)
              refine ⟨rfl, true, ?_, hm, K_69⟩
              repeat' first | exact trivial | refine ⟨rfl, ?_⟩
            ·
              replace hm := ite_f (of_decide_eq_false c11) hm
              refine sd_vv rfl rfl rfl (vv_move rfl) ?_
              refine sd_vv rfl rfl rfl (vv_neqU (c := x6.1) (d := 1#64) rfl rfl) ?_
              refine sd_vv rfl rfl rfl (vv_pickF rfl rfl) ?_
              refine sd_split rfl rfl rfl (vv_move rfl) (fun c12 => ?_) (fun c12 => ?_)
              ·
                replace hm := ite_t (of_decide_eq_true c12) hm
                refine sd_skip rfl rfl rfl ?_
                refine sd_skip rfl rfl rfl ?_
                refine sd_skip rfl rfl rfl ?_
                refine sd_vv rfl rfl rfl (vv_pickT rfl rfl) ?_
                refine sd_vv rfl rfl rfl (vv_move rfl) ?_
                refine sd_skip rfl rfl rfl ?_
                refine sd_skip rfl rfl rfl ?_
                refine sd_skip rfl rfl rfl ?_
                refine sd_skip rfl rfl rfl ?_
                refine sd_vv rfl rfl rfl (vv_pickT rfl rfl) ?_
                refine sd_nil ?_
                have K_70 : Kz [] w11 w11 := (Kz.refl _ _)
                refine ⟨rfl, true, ?_, hm, K_70⟩
                repeat' first | exact trivial | refine ⟨rfl, ?_⟩
              ·
                replace hm := ite_f (of_decide_eq_false c12) hm
                refine sd_vv rfl rfl rfl (vv_fieldAddr fa_45_1 rfl) ?_
                have B71 := (Bx.gr B31 Gw11)
                refine sd_vv rfl rfl rfl (vv_load1 (v := wv x2.1.Base) one_24 rfl B71 rfl) ?_
                refine sd_vv rfl rfl rfl (vv_lssU (c := x2.1.Base) (d := 2#64) rfl rfl) ?_
                refine sd_vv rfl rfl rfl (vv_pickF rfl rfl) ?_
                refine sd_split rfl rfl rfl (vv_move rfl) (fun c13 => ?_) (fun c13 => ?_)
                ·
                  replace hm := ite_t (of_decide_eq_true c13) hm
                  refine sd_skip rfl rfl rfl ?_
                  refine sd_skip rfl rfl rfl ?_
                  refine sd_skip rfl rfl rfl ?_
                  refine sd_skip rfl rfl rfl ?_
                  refine sd_vv rfl rfl rfl (vv_pickT rfl rfl) ?_
                  refine sd_nil ?_
                  have K_72 : Kz [] w11 w11 := (Kz.refl _ _)
                  refine ⟨rfl, true, ?_, hm, K_72⟩
                  repeat' first | exact trivial | refine ⟨rfl, ?_⟩
                ·
                  replace hm := ite_f (of_decide_eq_false c13) hm
                  refine sd_vv rfl rfl rfl (vv_fieldAddr fa_45_0 rfl) ?_
                  refine sd_vv rfl rfl rfl (vv_load1 (v := u5_r0_0) one_42 rfl B71 rfl) ?_
                  have B73 := (Own.gr (Own.gr (Own.gr (Own.gr (Own.md B18 Mw7 (tk1 ((pv_lt (A := (fun x => x ≠ b6)) lt14) : z5_r0_0 = 0 ∨ g5_r0_0 ≠ b6))) Gw8) Gw9) Gw10) Gw11)
                  refine sd_vv rfl rfl rfl (vv_lenT (l := x2.1.Items) (c := TItem.cs) Try.underlying42 rfl (Own.rd B73)) ?_
                  refine sd_vv rfl rfl rfl (vv_neq (a := (x2.1.Items.length : Int)) (b := 0) rfl rfl) ?_
                  refine sd_vv rfl rfl rfl (vv_pickF rfl rfl) ?_
                  refine sd_nil ?_
                  have K_74 : Kz [] w11 w11 := (Kz.refl _ _)
                  refine ⟨rfl, (decide ((x2.1.Items.length : Int) ≠ 0)), ?_, hm, K_74⟩
                  repeat' first | exact trivial | refine ⟨rfl, ?_⟩
end Go.Proofs.Ytkdghilkigojgaa.Mx
