/- Walks that follow mirrors: Qe. Printed by mx.py. -/
import Derived.Test.YtkdghilkigojgaaXw
import Derived.Test.YtkdghilkigojgaaQeM
set_option linter.unusedVariables false
set_option linter.unusedSimpArgs false
set_option maxRecDepth 100000
namespace Go.Proofs.Ytkdghilkigojgaa.Mx
open Go Go.RowKit Go.Sx
theorem en_49 : En Try.prog 49 := fun _ _ => by kernel_rfl
theorem en_53 : En Try.prog 53 := fun _ _ => by kernel_rfl
theorem en_57 : En Try.prog 57 := fun _ _ => by kernel_rfl
theorem en_29 : En Try.prog 29 := fun _ _ => by kernel_rfl

set_option maxHeartbeats 16000000 in
theorem law04_PolyHidden_w (p0 : W2) (p1 : TScheme) (p2 : List Int) (p3 : W2) (p4 : BitVec 64) (p5 : BitVec 64) (p6 : BitVec 64) (vp2 : Value) (zp2 gp2 op2 : Nat) (r : Bool) (hm : law04_PolyHidden p0 p1 p2 p3 p4 p5 p6 = some r) (w : World) (hp2 : Rd w zp2 gp2 op2 1 vp2 (p2.map ic))  :
    Calls Try.prog 16 [kv p0, .agg (TScheme.cs p1).toArray, vp2, kv p3, wv p4, wv p5, wv p6].toArray w fun e w' => ∃ v, e = .returned v ∧ (v = .bool r ∧ Gr w w') := by
  have lt1 := hp2.lth
  unfold law04_PolyHidden at hm
  refine calls_of_sw (R := fun v w' => v = .bool r ∧ Gr w w') 279 Try.func16 rfl rfl rfl ?_
  refine sw_seq ?_
  -- region 0 outright.go:195
  refine sw_region [(0, 0), (1, 0), (2, 0), (3, 0)] rfl rfl rfl ?_
  refine sd_ev rfl rfl rfl (ev_box (cs := kb p0) rfl rfl) ?_
  rintro _ w1 ⟨b1, rfl, hbw1, Bw1, Gw1⟩
  have z2 := Gw1.size
  have lt3 := Bw1.lt
  refine sd_ev rfl rfl rfl (ev_box (cs := TScheme.cs p1) rfl rfl) ?_
  rintro _ w2 ⟨b2, rfl, hbw2, Bw2, Gw2⟩
  have z4 := Gw2.size
  have lt5 := Bw2.lt
  refine sd_ev rfl rfl rfl (ev_box (cs := kb p3) rfl rfl) ?_
  rintro _ w3 ⟨b3, rfl, hbw3, Bw3, Gw3⟩
  have z6 := Gw3.size
  have lt7 := Bw3.lt
  refine sd_vv rfl rfl rfl (vv_assign rfl) ?_
  refine sd_done ?_
  refine sw_seq ?_
  -- region 1 outright.go:196
  refine sw_region [(0, 0), (1, 0)] rfl rfl rfl ?_
  have hb := bnd hm; clear hm; obtain ⟨x1, hx1, hm⟩ := hb
  refine sd_ev rfl rfl rfl (ev_call en_49 rfl (law04_alive_w _ hx1 _)) ?_
  rintro _ w4 ⟨rfl, Gw4⟩
  have z8 := Gw4.size
  refine sd_vv rfl rfl rfl (vv_assign rfl) ?_
  refine sd_done ?_
  refine sw_seq ?_
  have X9 : Gr w w4 := (Gr.trans (Gr.trans (Gr.trans (Gr.trans (Gr.refl w) Gw1) Gw2) Gw3) Gw4)
  refine sw_joinD (β := Bool) [39, 40, 41, 42, 43, 44, 45, 46, 47, 48, 49, 50, 51, 52, 53, 54, 55, 56, 57, 58, 59, 60, 61, 62, 63, 64, 65, 66, 67, 68, 69] (fun a2 => [(69, .bool a2)]) (fun a2 wr => (law04_PolyHidden_J1 p0 p1 p2 p3 p4 p5 p6 x1 a2 = some r) ∧ Kz [] w4 wr) ?_ ?_
  · clear hm; rintro a2 w5 ⟨hm, Kw5⟩
    have z10 := Kw5.size
    unfold law04_PolyHidden_J1 at hm
    refine sw_cond rfl (fun c1 => ?_) (fun c1 => ?_)
    ·
      replace hm := cnd_t c1 hm
      refine sw_seq ?_
      -- region 3 outright.go:198
      refine sw_region [(0, 0), (1, 0)] rfl rfl rfl ?_
      refine sd_vv rfl rfl rfl (vv_move rfl) ?_
      refine sd_vv rfl rfl rfl (vv_assign rfl) ?_
      refine sd_done ?_
      refine sw_ret ?_
      refine then_r ?_
      have X11 : Gr w w5 := (Gr.kz X9 Kw5)
      have hr := Option.some.inj hm
      subst hr
      refine ⟨_, _, rfl, res_1 rfl (rv_tmp rfl), ?_⟩
      exact ⟨rfl, X11⟩
    ·
      replace hm := cnd_f c1 hm
      refine sw_skip ?_
      refine then_n ?_
      refine sw_seq ?_
      -- region 4 outright.go:200
      refine sw_region [(0, 0), (1, 0), (2, 0), (3, 0), (4, 0), (5, 0), (6, 0), (7, 0), (8, 0), (9, 0), (10, 0), (11, 0)] rfl rfl rfl ?_
      have B12 := (Bx.kz (Bx.gr (Bx.gr (Bx.gr Bw1 Gw2) Gw3) Gw4) Kw5)
      refine sd_vv rfl rfl rfl (vv_loadW agg_23 rfl B12 rfl) ?_
      have B13 := (Bx.kz (Bx.gr (Bx.gr Bw2 Gw3) Gw4) Kw5)
      refine sd_vv rfl rfl rfl (vv_loadW agg_28 rfl B13 rfl) ?_
      refine sd_vv rfl rfl rfl (vv_move rfl) ?_
      have B14 := (Bx.kz (Bx.gr Bw3 Gw4) Kw5)
      refine sd_vv rfl rfl rfl (vv_loadW agg_23 rfl B14 rfl) ?_
      refine sd_vv rfl rfl rfl (vv_move rfl) ?_
      have B15 := (Rd.kz (Rd.gr (Rd.gr (Rd.gr (Rd.gr hp2 Gw1) Gw2) Gw3) Gw4) Kw5)
      have hb := bnd hm; clear hm; obtain ⟨x3, hx3, hm⟩ := hb
      refine sd_ev rfl rfl rfl (ev_call en_21 rfl (poly_Seal_w p0 p1 p2 p3 p4 _ _ _ _ _ hx3 _ B15)) ?_
      rintro _ w6 ⟨u6_r0_0, z6_r0_0, g6_r0_0, u6_r0_2, z6_r0_2, g6_r0_2, rfl, O6_r0_0, f6_r0_0, O6_r0_2, f6_r0_2, d6_0, Gw6⟩
      have z16 := Gw6.size
      have lt17 := O6_r0_0.lth
      have lt18 := O6_r0_2.lth
      refine sd_vv rfl rfl rfl (vv_move rfl) ?_
      refine sd_vv rfl rfl rfl (vv_extract rfl rfl) ?_
      refine sd_vv rfl rfl rfl (vv_extract rfl rfl) ?_
      refine sd_ev rfl rfl rfl (ev_alloc (cs := THeader.cs (THeader.mk [] 0#64 [] k0 k0) (.slice none 0 0) (.slice none 0 0)) zv_45 rfl) ?_
      rintro _ w7 ⟨b7, rfl, hbw7, Bw7, Gw7⟩
      have z19 := Gw7.size
      have lt20 := Bw7.lt
      have B21 := (Own.gr O6_r0_0 Gw7)
      have B22 := (Own.gr O6_r0_2 Gw7)
      refine sd_ev rfl rfl rfl (ev_stM (cs' := THeader.cs x3.1 u6_r0_0 u6_r0_2) (vs := THeader.cs x3.1 u6_r0_0 u6_r0_2) (agg_45).siz rfl rfl rfl rfl (THeader.cs_ones _ _ _ (Own.oneB B21) (Own.oneB B22)) Bw7 rfl rfl) ?_
      rintro _ w8 ⟨Bw8, Mw8⟩
      have z23 := Mw8.size
      refine sd_vv rfl rfl rfl (vv_assign rfl) ?_
      refine sd_done ?_
      refine sw_seq ?_
      -- region 5 outright.go:201
      refine sw_region [(0, 0), (1, 0), (2, 0), (3, 0), (4, 0), (5, 0), (6, 0), (7, 0)] rfl rfl rfl ?_
      have B24 := (Bx.md (Bx.gr (Bx.gr B12 Gw6) Gw7) Mw8)
      refine sd_vv rfl rfl rfl (vv_loadW agg_23 rfl B24 rfl) ?_
      have B25 := (Bx.md (Bx.gr (Bx.gr B13 Gw6) Gw7) Mw8)
      refine sd_vv rfl rfl rfl (vv_loadW agg_28 rfl B25 rfl) ?_
      have hb := bnd hm; clear hm; obtain ⟨x4, hx4, hm⟩ := hb
      refine sd_ev rfl rfl rfl (ev_call en_29 rfl (poly_Coefficients_w p0 p1 _ hx4 _)) ?_
      rintro _ w9 ⟨u9_r0_s, z9_r0_s, g9_r0_s, rfl, O9_r0_s, f9_r0_s, Gw9⟩
      have z26 := Gw9.size
      have lt27 := O9_r0_s.lth
      refine sd_vv rfl rfl rfl (vv_move rfl) ?_
      refine sd_vv rfl rfl rfl (vv_extract rfl rfl) ?_
      refine sd_vv rfl rfl rfl (vv_extract rfl rfl) ?_
      refine sd_vv rfl rfl rfl (vv_assign rfl) ?_
      refine sd_vv rfl rfl rfl (vv_assign rfl) ?_
      refine sd_done ?_
      refine sw_seq ?_
      have X28 : Gr w w9 := (Gr.trans (Gr.md (Gr.trans (Gr.trans (Gr.kz X9 Kw5) Gw6) Gw7) Mw8) Gw9)
      refine sw_joinD (β := Bool) [86, 87, 88, 89, 90, 91, 92, 93, 94, 95, 96, 97, 98, 99] (fun a5 => [(99, .bool a5)]) (fun a5 wr => (law04_PolyHidden_J2 p0 p1 p2 p5 p6 x1 x3 x4 a5 = some r) ∧ Kz [] w9 wr) ?_ ?_
      · clear hm; rintro a5 w10 ⟨hm, Kw10⟩
        have z29 := Kw10.size
        unfold law04_PolyHidden_J2 at hm
        refine sw_cond rfl (fun c2 => ?_) (fun c2 => ?_)
        ·
          replace hm := cnd_t c2 hm
          refine sw_seq ?_
          -- region 7 outright.go:203
          refine sw_region [(0, 0)] rfl rfl rfl ?_
          refine sd_vv rfl rfl rfl (vv_assign rfl) ?_
          refine sd_done ?_
          refine sw_ret ?_
          refine then_r ?_
          have X30 : Gr w w10 := (Gr.kz X28 Kw10)
          have hr := Option.some.inj hm
          subst hr
          refine ⟨_, _, rfl, res_1 rfl (rv_tmp rfl), ?_⟩
          exact ⟨rfl, X30⟩
        ·
          replace hm := cnd_f c2 hm
          refine sw_skip ?_
          refine then_n ?_
          refine sw_seq ?_
          -- region 8 outright.go:205
          refine sw_region [(0, 0), (1, 0), (2, 0), (3, 0)] rfl rfl rfl ?_
          refine sd_vv rfl rfl rfl (vv_move rfl) ?_
          refine sd_vv rfl rfl rfl (vv_build (cs := TPoint.cs (TPoint.mk 0#64 p5)) bs_31 rfl rfl) ?_
          refine sd_ev rfl rfl rfl (ev_litT [(TPoint.mk 0#64 p5)] TPoint.cs bsl_43_1 rfl rfl (ws_of rfl) rfl rfl rfl) ?_
          rintro vw11 w11 ⟨gw11, hbw11, Ow11, Gw11⟩
          have z31 := Gw11.size
          have lt32 := Ow11.lth
          refine sd_vv rfl rfl rfl (vv_assign rfl) ?_
          refine sd_done ?_
          refine sw_seq ?_
          refine sw_seq ?_
          -- region 9 outright.go:206
          refine sw_region [(0, 0)] rfl rfl rfl ?_
          refine sd_vv rfl rfl rfl (vv_assign rfl) ?_
          refine sd_done ?_
          refine sw_block ?_
          have X33 : Gr w w11 := (Gr.trans (Gr.kz X28 Kw10) Gw11)
          have B34 := (Rd.gr (Rd.kz (Rd.gr (Rd.md (Rd.gr (Rd.gr B15 Gw6) Gw7) Mw8 (tk1 ((pv_lt (A := (fun x => x ≠ b7)) lt1) : zp2 = 0 ∨ gp2 ≠ b7))) Gw9) Kw10) Gw11)
          have B35 := (Own.gr (Own.kz (Own.gr (Own.md B21 Mw8 (tk1 ((pv_lt (A := (fun x => x ≠ b7)) lt17) : z6_r0_0 = 0 ∨ g6_r0_0 ≠ b7))) Gw9) Kw10) Gw11)
          have B36 := (Own.gr (Own.kz (Own.gr (Own.md B22 Mw8 (tk1 ((pv_lt (A := (fun x => x ≠ b7)) lt18) : z6_r0_2 = 0 ∨ g6_r0_2 ≠ b7))) Gw9) Kw10) Gw11)
          have B37 := (Own.gr (Own.kz O9_r0_s Kw10) Gw11)
          refine sw_loopD (α := Nat × List TPoint × Int × Value × Nat × Nat) [14, 20, 21, 22, 23, 103, 104, 105, 106, 107, 108, 109, 110, 111, 112, 113, 114, 115, 116, 117, 118, 119, 120, 121, 122, 123, 124, 125, 126, 127, 128, 129, 130, 131, 132, 133, 134] (fun ⟨n3, a9, a11, vy10, zy10, gy10⟩ => [(14, .bool false), (20, vy10), (21, .int .i64 a11)]) (fun ⟨n3, a9, a11, vy10, zy10, gy10⟩ wr => (fixN (law04_PolyHidden_L3 p0 p1 p2 p5 p6 x1 x3 x4) n3 (a9, a11) = some r) ∧ Own wr zy10 gy10 31 2 vy10 (a9.map TPoint.cs) ∧ Hdn (zy10 = 0 ∨ (gy10 = gw11 ∧ 1 ≠ 0) ∨ w11.heap.size ≤ gy10) ∧ Kz [(1, gw11)] w11 wr) (fun ⟨n3, a9, a11, vy10, zy10, gy10⟩ => n3) ⟨FUEL, [(TPoint.mk 0#64 p5)], 0, vw11, 1, gw11⟩ ?_ ?_ ?_
          · repeat' first | exact trivial | refine ⟨rfl, ?_⟩
          · exact ⟨hm, Ow11, ⟨tk0⟩, Kz.refl _ _⟩
          · clear hm; rintro ⟨n3, a9, a11, vy10, zy10, gy10⟩ w12 ⟨hm, Fw12_0, Fw12_1, Kw12⟩
            have z38 := Kw12.size
            have lt39 := Fw12_0.lth
            have hb := fix_succ hm; clear hm; obtain ⟨n3, rfl, hm⟩ := hb
            generalize hrec3 : fixN (law04_PolyHidden_L3 p0 p1 p2 p5 p6 x1 x3 x4) n3 = rec3 at hm
            unfold law04_PolyHidden_L3 at hm
            try dsimp only at hm
            refine sw_seq ?_
            refine sw_seq ?_
            -- region 10 outright.go:206
            refine sw_region [(0, 0), (1, 0), (2, 0), (3, 0), (4, 0)] rfl rfl rfl ?_
            refine sd_vv rfl rfl rfl (vv_move rfl) ?_
            refine sd_vv rfl rfl rfl (vv_fieldAddr fa_45_2 rfl) ?_
            have B40 := (Bx.kz (Bx.gr (Bx.kz (Bx.gr Bw8 Gw9) Kw10) Gw11) Kw12 (tk1 ((.inr tk0) : 1 = 0 ∨ gw11 ≠ b7)))
            refine sd_vv rfl rfl rfl (vv_load1 (v := u6_r0_2) one_43 rfl B40 rfl) ?_
            have B41 := (Own.kz B36 Kw12 (tk1 ((pv_sw (.inr (tk1 lt18.o))) : z6_r0_2 = 0 ∨ 1 = 0 ∨ g6_r0_2 ≠ gw11)))
            refine sd_vv rfl rfl rfl (vv_lenT (l := x3.1.Points) (c := TPoint.cs) Try.underlying43 rfl (Own.rd B41)) ?_
            refine sd_vv rfl rfl rfl (vv_lss (a := a11) (b := (x3.1.Points.length : Int)) rfl rfl) ?_
            refine sd_done ?_
            refine sw_cond rfl (fun c3 => ?_) (fun c3 => ?_)
            ·
              replace hm := ite_t (of_decide_eq_true c3) hm
              refine sw_skip ?_
              refine then_n ?_
              refine sw_seq ?_
              refine sw_block ?_
              refine sw_seq ?_
              -- region 12 outright.go:207 DRAWS
              refine sw_drawN [([])] [] (.leaf [(0, 10), (1, 10), (2, 10), (3, 10), (4, 10), (5, 10), (6, 10), (7, 10), (8, 0), (9, 10), (10, 10), (11, 10), (12, 10), (13, 10)]) (by kernel_rfl) (by kernel_rfl) rfl (by kernel_rfl) ?_
              intro w13 Gw13 zw13
              refine sdz_leaf ?_
              have B42 := (Bx.gr (Bx.kz (Bx.gr (Bx.kz (Bx.gr B25 Gw9) Kw10) Gw11) Kw12 (tk1 ((.inr tk0) : 1 = 0 ∨ gw11 ≠ b2))) Gw13)
              refine dd_hn 0 rfl rfl rfl rfl (Kp.refl ([]) w13) (fun w hS => vv_loadW agg_28 rfl (Bx.kp B42 hS) rfl) ?_
              refine dd_hn 0 rfl rfl rfl rfl (Kp.refl ([]) w13) (fun w hS => vv_move rfl) ?_
              refine dd_hn 0 rfl rfl rfl rfl (Kp.refl ([]) w13) (fun w hS => vv_fieldAddr fa_45_2 rfl) ?_
              have B43 := (Bx.gr B40 Gw13)
              refine dd_hn 0 rfl rfl rfl rfl (Kp.refl ([]) w13) (fun w hS => vv_load1 (v := u6_r0_2) one_43 rfl (Bx.kp B43 hS) rfl) ?_
              refine dd_hn 0 rfl rfl rfl rfl (Kp.refl ([]) w13) (fun w hS => vv_move rfl) ?_
              have hb := bnd hm; clear hm; obtain ⟨y12, hy12, hm⟩ := hb
              have B44 := (Own.gr B41 Gw13)
              refine dd_hn 0 rfl rfl rfl rfl (Kp.refl ([]) w13) (fun w hS => vv_ixT (i := a11) Try.underlying43 (agg_31).siz rfl (Own.rd (Own.kp B44 hS)) rfl hy12) ?_
              refine dd_hn 0 rfl rfl rfl rfl (Kp.refl ([]) w13) (fun w hS => vv_fieldAddr fa_31_0 rfl) ?_
              refine dd_hn 0 rfl rfl rfl rfl (Kp.refl ([]) w13) (fun w hS => vv_el1T (q := 0) (u := wv y12.X) one_24 rfl (Own.rd (Own.kp B44 hS)) hy12 (by first | rfl | omega) rfl) ?_
              have B45 := (Own.gr (Own.kz B37 Kw12 (tk1 ((pv_sw (.inr (tk1 lt27.o))) : z9_r0_s = 0 ∨ 1 = 0 ∨ g9_r0_s ≠ gw11))) Gw13)
              have hb := bnd hm; clear hm; obtain ⟨x13, hx13, hm⟩ := hb
              refine dd_z [] rfl rfl rfl (ev_call en_34 rfl (poly_Value_w p1 x4.1 y12.X _ _ _ _ _ hx13 _ (Own.rd B45))) ⟨fun _ => tk0, trivial⟩ ?_
              rintro _ w14 ⟨rfl, Gw14⟩
              have z46 := Gw14.size
              refine ⟨Kz.ofGr Gw14, ?_⟩
              have S47 := (Kp.gr (Kp.refl ([]) w13) Gw14)
              refine dd_hn 0 rfl rfl rfl rfl S47 (fun w hS => vv_move rfl) ?_
              refine dd_hn 0 rfl rfl rfl rfl S47 (fun w hS => vv_extract rfl rfl) ?_
              refine dd_hn 0 rfl rfl rfl rfl S47 (fun w hS => vv_extract rfl rfl) ?_
              refine dd_hn 0 rfl rfl rfl rfl S47 (fun w hS => vv_assign rfl) ?_
              refine dd_hn 0 rfl rfl rfl rfl S47 (fun w hS => vv_assign rfl) ?_
              refine sd_done ?_
              refine sw_seq ?_
              refine sw_seq ?_
              -- region 13 outright.go:208
              refine sw_region [(0, 0), (1, 0)] rfl rfl rfl ?_
              refine sd_vv rfl rfl rfl (vv_move rfl) ?_
              refine sd_vv rfl rfl rfl (vv_neq (a := x13.2) (b := 0) rfl rfl) ?_
              refine sd_done ?_
              refine sw_cond rfl (fun c4 => ?_) (fun c4 => ?_)
              ·
                replace hm := ite_t (of_decide_eq_true c4) hm
                refine sw_seq ?_
                -- region 14 outright.go:209
                refine sw_region [(0, 0)] rfl rfl rfl ?_
                refine sd_vv rfl rfl rfl (vv_assign rfl) ?_
                refine sd_done ?_
                refine sw_ret ?_
                refine then_r ?_
                refine block_r ?_
                refine then_r ?_
                refine then_r ?_
                refine block_r ?_
                refine then_r ?_
                have X48 : Gr w w14 := (Gr.trans (Gr.trans (Gr.kz X33 Kw12 (tk1 ((.inr tk0) : 1 = 0 ∨ w.heap.size ≤ gw11))) Gw13) Gw14)
                have hr := Option.some.inj hm
                subst hr
                refine ⟨_, _, rfl, res_1 rfl (rv_tmp rfl), ?_⟩
                exact ⟨rfl, X48⟩
              ·
                replace hm := ite_f (of_decide_eq_false c4) hm
                refine sw_skip ?_
                refine then_n ?_
                -- region 15 outright.go:211
                refine sw_region [(0, 0), (1, 0), (2, 0), (3, 0), (4, 0), (5, 0), (6, 0), (7, 0), (8, 0), (9, 0), (10, 0), (11, 0)] rfl rfl rfl ?_
                refine sd_vv rfl rfl rfl (vv_move rfl) ?_
                refine sd_vv rfl rfl rfl (vv_fieldAddr fa_45_2 rfl) ?_
                have B49 := (Bx.gr B43 Gw14)
                refine sd_vv rfl rfl rfl (vv_load1 (v := u6_r0_2) one_43 rfl B49 rfl) ?_
                refine sd_vv rfl rfl rfl (vv_move rfl) ?_
                have hb := bnd hm; clear hm; obtain ⟨y14, hy14, hm⟩ := hb
                have B50 := (Own.gr B44 Gw14)
                refine sd_vv rfl rfl rfl (vv_ixT (i := a11) Try.underlying43 (agg_31).siz rfl (Own.rd B50) rfl hy14) ?_
                refine sd_vv rfl rfl rfl (vv_fieldAddr fa_31_0 rfl) ?_
                refine sd_vv rfl rfl rfl (vv_el1T (q := 0) (u := wv y14.X) one_24 rfl (Own.rd B50) hy14 (by first | rfl | omega) rfl) ?_
                refine sd_vv rfl rfl rfl (vv_move rfl) ?_
                refine sd_vv rfl rfl rfl (vv_build (cs := TPoint.cs (TPoint.mk y14.X x13.1)) bs_31 rfl rfl) ?_
                refine sd_ev rfl rfl rfl (ev_litT [(TPoint.mk y14.X x13.1)] TPoint.cs bsl_43_1 rfl rfl (ws_of rfl) rfl rfl rfl) ?_
                rintro vw15 w15 ⟨gw15, hbw15, Ow15, Gw15⟩
                have z51 := Gw15.size
                have lt52 := Ow15.lth
                have B53 := (Own.gr (Own.gr (Own.gr Fw12_0 Gw13) Gw14) Gw15)
                have hb := bnd hm; clear hm; obtain ⟨l15, hl15, hm⟩ := hb
                refine sd_ev rfl rfl rfl (ev_appT (l := a9) (m := [(TPoint.mk y14.X x13.1)]) (c := TPoint.cs) apt_43 rfl rfl B53 (Own.rd Ow15) hl15 (by decide)) ?_
                rintro vw16 w16 ⟨zw16, gw16, Ow16, Aw16, qw16, rw16⟩
                have z54 := Aw16.size
                refine sd_vv rfl rfl rfl (vv_assign rfl) ?_
                refine sd_nil ?_
                refine block_n ?_
                refine then_n ?_
                -- region 11 outright.go:206
                refine sw_region [(0, 0), (1, 0), (2, 0)] rfl rfl rfl ?_
                refine sd_vv rfl rfl rfl (vv_move rfl) ?_
                refine sd_vv rfl rfl rfl (vv_add (k := .i64) (a := a11) (b := 1) rfl rfl) ?_
                refine sd_vv rfl rfl rfl (vv_assign rfl) ?_
                refine sd_nil ?_
                have K_55 : Kz [(1, gw11)] w11 w16 := (Kz.ka (Kz.gr (Kz.gr (Kz.gr Kw12 Gw13) Gw14) Gw15) Aw16 (tk1 ((pv_1 (A := (fun x => (x = gw11 ∧ 1 ≠ 0) ∨ w11.heap.size ≤ x)) Fw12_1 tk0) : zy10 = 0 ∨ (gy10 = gw11 ∧ 1 ≠ 0) ∨ w11.heap.size ≤ gy10)))
                subst hrec3
                refine ⟨rfl, ⟨n3, l15, w64 (a11 + 1), vw16, zw16, gw16⟩, ?_, ⟨hm, Ow16, ⟨(pv_app (A := (fun x => (x = gw11 ∧ 1 ≠ 0) ∨ w11.heap.size ≤ x)) rw16 (pv_1 (A := (fun x => (x = gw11 ∧ 1 ≠ 0) ∨ w11.heap.size ≤ x)) Fw12_1 tk0))⟩, K_55⟩, Nat.lt_succ_self _⟩
                repeat' first | exact trivial | refine ⟨rfl, ?_⟩
            ·
              replace hm := ite_f (of_decide_eq_false c3) hm
              refine sw_exit ?_
              refine then_x ?_
              refine then_x ?_
              refine block_x ?_
              refine then_n ?_
              refine sw_seq ?_
              -- region 16 outright.go:213
              refine sw_region [(0, 0), (1, 0), (2, 0), (3, 0), (4, 0), (5, 0), (6, 0), (7, 0)] rfl rfl rfl ?_
              have B56 := (Bx.kz (Bx.gr (Bx.kz (Bx.gr B25 Gw9) Kw10) Gw11) Kw12 (tk1 ((.inr tk0) : 1 = 0 ∨ gw11 ≠ b2)))
              refine sd_vv rfl rfl rfl (vv_loadW agg_28 rfl B56 rfl) ?_
              refine sd_vv rfl rfl rfl (vv_move rfl) ?_
              have hb := bnd hm; clear hm; obtain ⟨x16, hx16, hm⟩ := hb
              refine sd_ev rfl rfl rfl (ev_call en_36 rfl (poly_Interpolate_w p1 a9 _ _ _ _ _ hx16 _ (Own.rd Fw12_0))) ?_
              rintro _ w17 ⟨u17_r0_s, z17_r0_s, g17_r0_s, rfl, O17_r0_s, f17_r0_s, Gw17⟩
              have z57 := Gw17.size
              have lt58 := O17_r0_s.lth
              refine sd_vv rfl rfl rfl (vv_move rfl) ?_
              refine sd_vv rfl rfl rfl (vv_extract rfl rfl) ?_
              refine sd_vv rfl rfl rfl (vv_extract rfl rfl) ?_
              refine sd_vv rfl rfl rfl (vv_assign rfl) ?_
              refine sd_vv rfl rfl rfl (vv_assign rfl) ?_
              refine sd_done ?_
              refine sw_seq ?_
              -- region 17 outright.go:214
              refine sw_region [(0, 0), (1, 0), (2, 0), (3, 0), (4, 0), (5, 0), (6, 0), (7, 0)] rfl rfl rfl ?_
              have B59 := (Bx.gr B56 Gw17)
              refine sd_vv rfl rfl rfl (vv_loadW agg_28 rfl B59 rfl) ?_
              refine sd_vv rfl rfl rfl (vv_move rfl) ?_
              have hb := bnd hm; clear hm; obtain ⟨x17, hx17, hm⟩ := hb
              refine sd_ev rfl rfl rfl (ev_call en_34 rfl (poly_Value_w p1 x16.1 0#64 _ _ _ _ _ hx17 _ (Own.rd O17_r0_s))) ?_
              rintro _ w18 ⟨rfl, Gw18⟩
              have z60 := Gw18.size
              refine sd_vv rfl rfl rfl (vv_move rfl) ?_
              refine sd_vv rfl rfl rfl (vv_extract rfl rfl) ?_
              refine sd_vv rfl rfl rfl (vv_extract rfl rfl) ?_
              refine sd_vv rfl rfl rfl (vv_assign rfl) ?_
              refine sd_vv rfl rfl rfl (vv_assign rfl) ?_
              refine sd_done ?_
              refine sw_seq ?_
              have X61 : Gr w w18 := (Gr.trans (Gr.trans (Gr.kz X33 Kw12 (tk1 ((.inr tk0) : 1 = 0 ∨ w.heap.size ≤ gw11))) Gw17) Gw18)
              refine sw_joinD (β := Bool) [17, 19, 147, 148, 149, 150, 151, 152, 153, 154, 155, 156, 157] (fun a18 => [(17, .int .i64 x16.2), (19, .int .i64 x17.2), (157, .bool a18)]) (fun a18 wr => (law04_PolyHidden_J4 p0 p1 p2 p5 p6 x1 x3 x16 a18 = some r) ∧ Kz [] w18 wr) ?_ ?_
              · clear hm; rintro a18 w19 ⟨hm, Kw19⟩
                have z62 := Kw19.size
                unfold law04_PolyHidden_J4 at hm
                refine sw_cond rfl (fun c5 => ?_) (fun c5 => ?_)
                ·
                  replace hm := cnd_t c5 hm
                  refine sw_seq ?_
                  -- region 19 outright.go:216
                  refine sw_region [(0, 0)] rfl rfl rfl ?_
                  refine sd_vv rfl rfl rfl (vv_assign rfl) ?_
                  refine sd_done ?_
                  refine sw_ret ?_
                  refine then_r ?_
                  have X63 : Gr w w19 := (Gr.kz X61 Kw19)
                  have hr := Option.some.inj hm
                  subst hr
                  refine ⟨_, _, rfl, res_1 rfl (rv_tmp rfl), ?_⟩
                  exact ⟨rfl, X63⟩
                ·
                  replace hm := cnd_f c5 hm
                  refine sw_skip ?_
                  refine then_n ?_
                  refine sw_seq ?_
                  refine sw_seq ?_
                  -- region 20 outright.go:218
                  refine sw_region [(0, 0)] rfl rfl rfl ?_
                  refine sd_vv rfl rfl rfl (vv_assign rfl) ?_
                  refine sd_done ?_
                  refine sw_block ?_
                  have X64 : Gr w w19 := (Gr.kz X61 Kw19)
                  have B65 := (Rd.kz (Rd.gr (Rd.gr (Rd.kz B34 Kw12 (tk1 ((pv_sw (.inr (tk1 lt1.o))) : zp2 = 0 ∨ 1 = 0 ∨ gp2 ≠ gw11))) Gw17) Gw18) Kw19)
                  have B66 := (Own.kz (Own.gr (Own.gr (Own.kz B35 Kw12 (tk1 ((pv_sw (.inr (tk1 lt17.o))) : z6_r0_0 = 0 ∨ 1 = 0 ∨ g6_r0_0 ≠ gw11))) Gw17) Gw18) Kw19)
                  have B67 := (Own.kz (Own.gr (Own.gr B41 Gw17) Gw18) Kw19)
                  have B68 := (Own.kz (Own.gr (Own.gr (Own.kz B37 Kw12 (tk1 ((pv_sw (.inr (tk1 lt27.o))) : z9_r0_s = 0 ∨ 1 = 0 ∨ g9_r0_s ≠ gw11))) Gw17) Gw18) Kw19)
                  have B69 := (Own.kz (Own.gr (Own.gr Fw12_0 Gw17) Gw18) Kw19)
                  have B70 := (Own.kz (Own.gr O17_r0_s Gw18) Kw19)
                  refine sw_loopD (α := Nat × Int) [14, 26, 27, 28, 29, 30, 158, 159, 160, 161, 162, 163, 164, 165, 166, 167, 168, 169, 170, 171, 172, 173, 174, 175, 176, 177, 178, 179, 180, 181, 182, 183, 184, 185, 186, 187, 188, 189, 190, 191, 192, 193, 194, 195, 196, 197, 198, 199, 200, 201, 202] (fun ⟨n5, a20⟩ => [(14, .bool false), (26, .int .i64 a20)]) (fun ⟨n5, a20⟩ wr => (fixN (law04_PolyHidden_L5 p0 p1 p2 p5 p6 x1 x3 x16) n5 a20 = some r) ∧ Kz [] w19 wr) (fun ⟨n5, a20⟩ => n5) ⟨FUEL, 0⟩ ?_ ?_ ?_
                  · repeat' first | exact trivial | refine ⟨rfl, ?_⟩
                  · exact ⟨hm, Kz.refl _ _⟩
                  · clear hm; rintro ⟨n5, a20⟩ w20 ⟨hm, Kw20⟩
                    have z71 := Kw20.size
                    have hb := fix_succ hm; clear hm; obtain ⟨n5, rfl, hm⟩ := hb
                    generalize hrec5 : fixN (law04_PolyHidden_L5 p0 p1 p2 p5 p6 x1 x3 x16) n5 = rec5 at hm
                    unfold law04_PolyHidden_L5 at hm
                    try dsimp only at hm
                    refine sw_seq ?_
                    refine sw_seq ?_
                    -- region 21 outright.go:218
                    refine sw_region [(0, 0), (1, 0), (2, 0), (3, 0), (4, 0)] rfl rfl rfl ?_
                    refine sd_vv rfl rfl rfl (vv_move rfl) ?_
                    refine sd_vv rfl rfl rfl (vv_fieldAddr fa_45_2 rfl) ?_
                    have B72 := (Bx.kz (Bx.kz (Bx.gr (Bx.gr B40 Gw17) Gw18) Kw19) Kw20)
                    refine sd_vv rfl rfl rfl (vv_load1 (v := u6_r0_2) one_43 rfl B72 rfl) ?_
                    have B73 := (Own.kz B67 Kw20)
                    refine sd_vv rfl rfl rfl (vv_lenT (l := x3.1.Points) (c := TPoint.cs) Try.underlying43 rfl (Own.rd B73)) ?_
                    refine sd_vv rfl rfl rfl (vv_lss (a := a20) (b := (x3.1.Points.length : Int)) rfl rfl) ?_
                    refine sd_done ?_
                    refine sw_cond rfl (fun c6 => ?_) (fun c6 => ?_)
                    ·
                      replace hm := ite_t (of_decide_eq_true c6) hm
                      refine sw_skip ?_
                      refine then_n ?_
                      refine sw_seq ?_
                      refine sw_block ?_
                      refine sw_seq ?_
                      -- region 23 outright.go:219 DRAWS
                      refine sw_drawN [([])] [] (.leaf [(0, 10), (1, 10), (2, 10), (3, 10), (4, 10), (5, 10), (6, 10), (7, 10), (8, 0), (9, 10), (10, 10), (11, 10), (12, 10), (13, 10)]) (by kernel_rfl) (by kernel_rfl) rfl (by kernel_rfl) ?_
                      intro w21 Gw21 zw21
                      refine sdz_leaf ?_
                      have B74 := (Bx.gr (Bx.kz (Bx.kz (Bx.gr B59 Gw18) Kw19) Kw20) Gw21)
                      refine dd_hn 0 rfl rfl rfl rfl (Kp.refl ([]) w21) (fun w hS => vv_loadW agg_28 rfl (Bx.kp B74 hS) rfl) ?_
                      refine dd_hn 0 rfl rfl rfl rfl (Kp.refl ([]) w21) (fun w hS => vv_move rfl) ?_
                      refine dd_hn 0 rfl rfl rfl rfl (Kp.refl ([]) w21) (fun w hS => vv_fieldAddr fa_45_2 rfl) ?_
                      have B75 := (Bx.gr B72 Gw21)
                      refine dd_hn 0 rfl rfl rfl rfl (Kp.refl ([]) w21) (fun w hS => vv_load1 (v := u6_r0_2) one_43 rfl (Bx.kp B75 hS) rfl) ?_
                      refine dd_hn 0 rfl rfl rfl rfl (Kp.refl ([]) w21) (fun w hS => vv_move rfl) ?_
                      have hb := bnd hm; clear hm; obtain ⟨y21, hy21, hm⟩ := hb
                      have B76 := (Own.gr B73 Gw21)
                      refine dd_hn 0 rfl rfl rfl rfl (Kp.refl ([]) w21) (fun w hS => vv_ixT (i := a20) Try.underlying43 (agg_31).siz rfl (Own.rd (Own.kp B76 hS)) rfl hy21) ?_
                      refine dd_hn 0 rfl rfl rfl rfl (Kp.refl ([]) w21) (fun w hS => vv_fieldAddr fa_31_0 rfl) ?_
                      refine dd_hn 0 rfl rfl rfl rfl (Kp.refl ([]) w21) (fun w hS => vv_el1T (q := 0) (u := wv y21.X) one_24 rfl (Own.rd (Own.kp B76 hS)) hy21 (by first | rfl | omega) rfl) ?_
                      have B77 := (Own.gr (Own.kz B70 Kw20) Gw21)
                      have hb := bnd hm; clear hm; obtain ⟨x22, hx22, hm⟩ := hb
                      refine dd_z [] rfl rfl rfl (ev_call en_34 rfl (poly_Value_w p1 x16.1 y21.X _ _ _ _ _ hx22 _ (Own.rd B77))) ⟨fun _ => tk0, trivial⟩ ?_
                      rintro _ w22 ⟨rfl, Gw22⟩
                      have z78 := Gw22.size
                      refine ⟨Kz.ofGr Gw22, ?_⟩
                      have S79 := (Kp.gr (Kp.refl ([]) w21) Gw22)
                      refine dd_hn 0 rfl rfl rfl rfl S79 (fun w hS => vv_move rfl) ?_
                      refine dd_hn 0 rfl rfl rfl rfl S79 (fun w hS => vv_extract rfl rfl) ?_
                      refine dd_hn 0 rfl rfl rfl rfl S79 (fun w hS => vv_extract rfl rfl) ?_
                      refine dd_hn 0 rfl rfl rfl rfl S79 (fun w hS => vv_assign rfl) ?_
                      refine dd_hn 0 rfl rfl rfl rfl S79 (fun w hS => vv_assign rfl) ?_
                      refine sd_done ?_
                      refine sw_seq ?_
                      -- region 24 outright.go:220
                      refine sw_region [(0, 0), (1, 0), (2, 0), (3, 0), (4, 0), (5, 0), (6, 0), (7, 0), (8, 0), (9, 0), (10, 0), (11, 0)] rfl rfl rfl ?_
                      refine sd_vv rfl rfl rfl (vv_fieldAddr fa_45_1 rfl) ?_
                      have B80 := (Bx.gr B75 Gw22)
                      refine sd_vv rfl rfl rfl (vv_load1 (v := wv x3.1.Base) one_24 rfl B80 rfl) ?_
                      refine sd_vv rfl rfl rfl (vv_move rfl) ?_
                      refine sd_vv rfl rfl rfl (vv_fieldAddr fa_28_3 rfl) ?_
                      refine sd_vv rfl rfl rfl (vv_fieldAddr fa_26_0 rfl) ?_
                      have B81 := (Bx.gr B74 Gw22)
                      refine sd_vv rfl rfl rfl (vv_load1 (v := wv p1.Group.P) one_24 rfl B81 rfl) ?_
                      have hb := bnd hm; clear hm; obtain ⟨x23, hx23, hm⟩ := hb
                      refine sd_ev rfl rfl rfl (ev_call en_61 rfl (number_PowMod_w x3.1.Base x22.1 p1.Group.P _ hx23 _)) ?_
                      rintro _ w23 ⟨rfl, Gw23⟩
                      have z82 := Gw23.size
                      refine sd_vv rfl rfl rfl (vv_move rfl) ?_
                      refine sd_vv rfl rfl rfl (vv_extract rfl rfl) ?_
                      refine sd_vv rfl rfl rfl (vv_extract rfl rfl) ?_
                      refine sd_vv rfl rfl rfl (vv_assign rfl) ?_
                      refine sd_vv rfl rfl rfl (vv_assign rfl) ?_
                      refine sd_done ?_
                      have X83 : Gr w w23 := (Gr.trans (Gr.trans (Gr.trans (Gr.kz X64 Kw20) Gw21) Gw22) Gw23)
                      refine sw_joinD (β := Bool) [187, 188, 189, 190, 191, 192, 193, 194, 195, 196, 197, 198, 199, 200, 201, 202] (fun a24 => [(202, .bool a24)]) (fun a24 wr => (law04_PolyHidden_J6 a20 rec5 a24 = some r) ∧ Kz [] w23 wr) ?_ ?_
                      · clear hm; rintro a24 w24 ⟨hm, Kw24⟩
                        have z84 := Kw24.size
                        unfold law04_PolyHidden_J6 at hm
                        refine sw_cond rfl (fun c7 => ?_) (fun c7 => ?_)
                        ·
                          replace hm := cnd_t c7 hm
                          refine sw_seq ?_
                          -- region 26 outright.go:222
                          refine sw_region [(0, 0)] rfl rfl rfl ?_
                          refine sd_vv rfl rfl rfl (vv_assign rfl) ?_
                          refine sd_done ?_
                          refine sw_ret ?_
                          refine block_r ?_
                          refine then_r ?_
                          refine then_r ?_
                          refine block_r ?_
                          refine then_r ?_
                          have X85 : Gr w w24 := (Gr.kz X83 Kw24)
                          have hr := Option.some.inj hm
                          subst hr
                          refine ⟨_, _, rfl, res_1 rfl (rv_tmp rfl), ?_⟩
                          exact ⟨rfl, X85⟩
                        ·
                          replace hm := cnd_f c7 hm
                          refine sw_skip ?_
                          refine block_n ?_
                          refine then_n ?_
                          -- region 22 outright.go:218
                          refine sw_region [(0, 0), (1, 0), (2, 0)] rfl rfl rfl ?_
                          refine sd_vv rfl rfl rfl (vv_move rfl) ?_
                          refine sd_vv rfl rfl rfl (vv_add (k := .i64) (a := a20) (b := 1) rfl rfl) ?_
                          refine sd_vv rfl rfl rfl (vv_assign rfl) ?_
                          refine sd_nil ?_
                          have K_86 : Kz [] w19 w24 := (Kz.kz (Kz.gr (Kz.gr (Kz.gr Kw20 Gw21) Gw22) Gw23) Kw24)
                          subst hrec5
                          refine ⟨rfl, ⟨n5, w64 (a20 + 1)⟩, ?_, ⟨hm, K_86⟩, Nat.lt_succ_self _⟩
                          repeat' first | exact trivial | refine ⟨rfl, ?_⟩
                      ·
                        -- region 25 outright.go:221
                        refine sw_region [(0, 0), (1, 0), (2, 0), (3, 0), (4, 0), (5, 0), (6, 0), (7, 0), (8, 0), (9, 0), (10, 0), (11, 0), (12, 0), (13, 0), (14, 0), (15, 0)] rfl rfl rfl ?_
                        refine sd_vv rfl rfl rfl (vv_move rfl) ?_
                        refine sd_vv rfl rfl rfl (vv_neq (a := x22.2) (b := 0) rfl rfl) ?_
                        refine sd_split rfl rfl rfl (vv_move rfl) (fun c8 => ?_) (fun c8 => ?_)
                        ·
                          replace hm := ite_t (of_decide_eq_true c8) hm
                          refine sd_skip rfl rfl rfl ?_
                          refine sd_skip rfl rfl rfl ?_
                          refine sd_vv rfl rfl rfl (vv_pickT rfl rfl) ?_
                          refine sd_vv rfl rfl rfl (vv_move rfl) ?_
                          refine sd_skip rfl rfl rfl ?_
                          refine sd_skip rfl rfl rfl ?_
                          refine sd_skip rfl rfl rfl ?_
                          refine sd_skip rfl rfl rfl ?_
                          refine sd_skip rfl rfl rfl ?_
                          refine sd_skip rfl rfl rfl ?_
                          refine sd_skip rfl rfl rfl ?_
                          refine sd_skip rfl rfl rfl ?_
                          refine sd_vv rfl rfl rfl (vv_pickT rfl rfl) ?_
                          refine sd_nil ?_
                          have K_87 : Kz [] w23 w23 := (Kz.refl _ _)
                          refine ⟨rfl, true, ?_, hm, K_87⟩
                          repeat' first | exact trivial | refine ⟨rfl, ?_⟩
                        ·
                          replace hm := ite_f (of_decide_eq_false c8) hm
                          refine sd_vv rfl rfl rfl (vv_move rfl) ?_
                          refine sd_vv rfl rfl rfl (vv_neq (a := x23.2) (b := 0) rfl rfl) ?_
                          refine sd_vv rfl rfl rfl (vv_pickF rfl rfl) ?_
                          refine sd_split rfl rfl rfl (vv_move rfl) (fun c9 => ?_) (fun c9 => ?_)
                          ·
                            replace hm := ite_t (of_decide_eq_true c9) hm
                            refine sd_skip rfl rfl rfl ?_
                            refine sd_skip rfl rfl rfl ?_
                            refine sd_skip rfl rfl rfl ?_
                            refine sd_skip rfl rfl rfl ?_
                            refine sd_skip rfl rfl rfl ?_
                            refine sd_skip rfl rfl rfl ?_
                            refine sd_skip rfl rfl rfl ?_
                            refine sd_skip rfl rfl rfl ?_
                            refine sd_vv rfl rfl rfl (vv_pickT rfl rfl) ?_
                            refine sd_nil ?_
                            have K_88 : Kz [] w23 w23 := (Kz.refl _ _)
                            refine ⟨rfl, true, ?_, hm, K_88⟩
                            repeat' first | exact trivial | refine ⟨rfl, ?_⟩
                          ·
                            replace hm := ite_f (of_decide_eq_false c9) hm
                            refine sd_vv rfl rfl rfl (vv_move rfl) ?_
                            refine sd_vv rfl rfl rfl (vv_fieldAddr fa_45_2 rfl) ?_
                            have B89 := (Bx.gr B80 Gw23)
                            refine sd_vv rfl rfl rfl (vv_load1 (v := u6_r0_2) one_43 rfl B89 rfl) ?_
                            refine sd_vv rfl rfl rfl (vv_move rfl) ?_
                            have hb := bnd hm; clear hm; obtain ⟨y25, hy25, hm⟩ := hb
                            have B90 := (Own.gr (Own.gr B76 Gw22) Gw23)
                            refine sd_vv rfl rfl rfl (vv_ixT (i := a20) Try.underlying43 (agg_31).siz rfl (Own.rd B90) rfl hy25) ?_
                            refine sd_vv rfl rfl rfl (vv_fieldAddr fa_31_1 rfl) ?_
                            refine sd_vv rfl rfl rfl (vv_el1T (q := 1) (u := wv y25.Y) one_24 rfl (Own.rd B90) hy25 (by first | rfl | omega) rfl) ?_
                            refine sd_vv rfl rfl rfl (vv_neqU (c := x23.1) (d := y25.Y) rfl rfl) ?_
                            refine sd_vv rfl rfl rfl (vv_pickF rfl rfl) ?_
                            refine sd_nil ?_
                            have K_91 : Kz [] w23 w23 := (Kz.refl _ _)
                            refine ⟨rfl, (decide (x23.1 ≠ y25.Y)), ?_, hm, K_91⟩
                            repeat' first | exact trivial | refine ⟨rfl, ?_⟩
                    ·
                      replace hm := ite_f (of_decide_eq_false c6) hm
                      refine sw_exit ?_
                      refine then_x ?_
                      refine then_x ?_
                      refine block_x ?_
                      refine then_n ?_
                      refine sw_seq ?_
                      refine sw_seq ?_
                      -- region 27 outright.go:225
                      refine sw_region [(0, 0)] rfl rfl rfl ?_
                      refine sd_vv rfl rfl rfl (vv_assign rfl) ?_
                      refine sd_done ?_
                      refine sw_block ?_
                      have X92 : Gr w w20 := (Gr.kz X64 Kw20)
                      have B93 := (Rd.kz B65 Kw20)
                      have B94 := (Own.kz B66 Kw20)
                      have B95 := (Own.kz B68 Kw20)
                      have B96 := (Own.kz B69 Kw20)
                      have B97 := (Own.kz B70 Kw20)
                      refine sw_loopD (α := Nat × Int) [14, 31, 32, 33, 34, 35, 203, 204, 205, 206, 207, 208, 209, 210, 211, 212, 213, 214, 215, 216, 217, 218, 219, 220, 221, 222, 223, 224, 225, 226, 227, 228, 229, 230, 231, 232, 233, 234, 235, 236, 237, 238, 239, 240] (fun ⟨n7, a27⟩ => [(14, .bool false), (31, .int .i64 a27)]) (fun ⟨n7, a27⟩ wr => (fixN (law04_PolyHidden_L7 p0 p1 p2 p5 p6 x1 x3 x16) n7 a27 = some r) ∧ Kz [] w20 wr) (fun ⟨n7, a27⟩ => n7) ⟨FUEL, 0⟩ ?_ ?_ ?_
                      · repeat' first | exact trivial | refine ⟨rfl, ?_⟩
                      · exact ⟨hm, Kz.refl _ _⟩
                      · clear hm; rintro ⟨n7, a27⟩ w25 ⟨hm, Kw25⟩
                        have z98 := Kw25.size
                        have hb := fix_succ hm; clear hm; obtain ⟨n7, rfl, hm⟩ := hb
                        generalize hrec7 : fixN (law04_PolyHidden_L7 p0 p1 p2 p5 p6 x1 x3 x16) n7 = rec7 at hm
                        unfold law04_PolyHidden_L7 at hm
                        try dsimp only at hm
                        refine sw_seq ?_
                        refine sw_seq ?_
                        -- region 28 outright.go:225
                        refine sw_region [(0, 0), (1, 0), (2, 0), (3, 0)] rfl rfl rfl ?_
                        refine sd_vv rfl rfl rfl (vv_move rfl) ?_
                        refine sd_vv rfl rfl rfl (vv_move rfl) ?_
                        have B99 := (Rd.kz B93 Kw25)
                        refine sd_vv rfl rfl rfl (vv_lenT (l := p2) (c := ic) Try.underlying41 rfl B99) ?_
                        refine sd_vv rfl rfl rfl (vv_lss (a := a27) (b := (p2.length : Int)) rfl rfl) ?_
                        refine sd_done ?_
                        refine sw_cond rfl (fun c10 => ?_) (fun c10 => ?_)
                        ·
                          replace hm := ite_t (of_decide_eq_true c10) hm
                          refine sw_skip ?_
                          refine then_n ?_
                          refine sw_seq ?_
                          refine sw_block ?_
                          have X100 : Gr w w25 := (Gr.kz X92 Kw25)
                          refine sw_joinD (β := TSecret × Int × Nat × Value × Nat × Nat) [32, 33, 209, 210, 211, 212, 213, 214, 215, 216, 217, 218] (fun ⟨a29, a31, bq28, vy30, zy30, gy30⟩ => [(32, .pointer (some ⟨bq28, 0, none⟩)), (33, .int .i64 a31)]) (fun ⟨a29, a31, bq28, vy30, zy30, gy30⟩ wr => (law04_PolyHidden_J8 p1 x16 a27 rec7 a29 a31 = some r) ∧ Own wr zy30 gy30 88 18 vy30 (a29.Labels.map TLabel.cs) ∧ Hdn (zy30 = 0 ∨ w25.heap.size ≤ gy30) ∧ Bx wr bq28 33 (TSecret.cs a29 vy30) ∧ w25.heap.size ≤ bq28 ∧ Hdn (zy30 = 0 ∨ gy30 ≠ bq28) ∧ Kz [] w25 wr) ?_ ?_
                          · clear hm; rintro ⟨a29, a31, bq28, vy30, zy30, gy30⟩ w26 ⟨hm, Fw26_0, Fw26_1, Fw26_2, Fw26_3, Fw26_4, Kw26⟩
                            have z101 := Kw26.size
                            have lt102 := Fw26_0.lth
                            have lt103 := Fw26_2.lt
                            unfold law04_PolyHidden_J8 at hm
                            refine sw_seq ?_
                            -- region 31 outright.go:227
                            refine sw_region [(0, 0), (1, 0), (2, 0), (3, 0), (4, 0), (5, 0), (6, 0), (7, 0), (8, 0), (9, 0), (10, 0)] rfl rfl rfl ?_
                            have B104 := (Bx.kz (Bx.kz (Bx.kz (Bx.kz (Bx.gr B59 Gw18) Kw19) Kw20) Kw25) Kw26)
                            refine sd_vv rfl rfl rfl (vv_loadW agg_28 rfl B104 rfl) ?_
                            refine sd_vv rfl rfl rfl (vv_move rfl) ?_
                            refine sd_vv rfl rfl rfl (vv_fieldAddr fa_33_2 rfl) ?_
                            refine sd_vv rfl rfl rfl (vv_fieldAddr fa_31_0 rfl) ?_
                            refine sd_vv rfl rfl rfl (vv_load1 (v := wv a29.Share.X) one_24 rfl Fw26_2 rfl) ?_
                            have B105 := (Own.kz (Own.kz B97 Kw25) Kw26)
                            have hb := bnd hm; clear hm; obtain ⟨x32, hx32, hm⟩ := hb
                            refine sd_ev rfl rfl rfl (ev_call en_34 rfl (poly_Value_w p1 x16.1 a29.Share.X _ _ _ _ _ hx32 _ (Own.rd B105))) ?_
                            rintro _ w27 ⟨rfl, Gw27⟩
                            have z106 := Gw27.size
                            refine sd_vv rfl rfl rfl (vv_move rfl) ?_
                            refine sd_vv rfl rfl rfl (vv_extract rfl rfl) ?_
                            refine sd_vv rfl rfl rfl (vv_extract rfl rfl) ?_
                            refine sd_vv rfl rfl rfl (vv_assign rfl) ?_
                            refine sd_vv rfl rfl rfl (vv_assign rfl) ?_
                            refine sd_done ?_
                            have X107 : Gr w w27 := (Gr.trans (Gr.kz X100 Kw26) Gw27)
                            refine sw_joinD (β := Bool) [228, 229, 230, 231, 232, 233, 234, 235, 236, 237, 238, 239, 240] (fun a33 => [(240, .bool a33)]) (fun a33 wr => (law04_PolyHidden_J9 a27 rec7 a33 = some r) ∧ Kz [] w27 wr) ?_ ?_
                            · clear hm; rintro a33 w28 ⟨hm, Kw28⟩
                              have z108 := Kw28.size
                              unfold law04_PolyHidden_J9 at hm
                              refine sw_cond rfl (fun c11 => ?_) (fun c11 => ?_)
                              ·
                                replace hm := cnd_t c11 hm
                                refine sw_seq ?_
                                -- region 33 outright.go:229
                                refine sw_region [(0, 0)] rfl rfl rfl ?_
                                refine sd_vv rfl rfl rfl (vv_assign rfl) ?_
                                refine sd_done ?_
                                refine sw_ret ?_
                                refine block_r ?_
                                refine then_r ?_
                                refine then_r ?_
                                refine block_r ?_
                                refine then_r ?_
                                have X109 : Gr w w28 := (Gr.kz X107 Kw28)
                                have hr := Option.some.inj hm
                                subst hr
                                refine ⟨_, _, rfl, res_1 rfl (rv_tmp rfl), ?_⟩
                                exact ⟨rfl, X109⟩
                              ·
                                replace hm := cnd_f c11 hm
                                refine sw_skip ?_
                                refine block_n ?_
                                refine then_n ?_
                                -- region 29 outright.go:225
                                refine sw_region [(0, 0), (1, 0), (2, 0)] rfl rfl rfl ?_
                                refine sd_vv rfl rfl rfl (vv_move rfl) ?_
                                refine sd_vv rfl rfl rfl (vv_add (k := .i64) (a := a27) (b := 1) rfl rfl) ?_
                                refine sd_vv rfl rfl rfl (vv_assign rfl) ?_
                                refine sd_nil ?_
                                have K_110 : Kz [] w20 w28 := (Kz.kz (Kz.gr (Kz.kz Kw25 Kw26) Gw27) Kw28)
                                subst hrec7
                                refine ⟨rfl, ⟨n7, w64 (a27 + 1)⟩, ?_, ⟨hm, K_110⟩, Nat.lt_succ_self _⟩
                                repeat' first | exact trivial | refine ⟨rfl, ?_⟩
                            ·
                              -- region 32 outright.go:228
                              refine sw_region [(0, 0), (1, 0), (2, 0), (3, 0), (4, 0), (5, 0), (6, 0), (7, 0), (8, 0), (9, 0), (10, 0), (11, 0), (12, 0)] rfl rfl rfl ?_
                              refine sd_vv rfl rfl rfl (vv_move rfl) ?_
                              refine sd_vv rfl rfl rfl (vv_neq (a := a31) (b := 0) rfl rfl) ?_
                              refine sd_split rfl rfl rfl (vv_move rfl) (fun c12 => ?_) (fun c12 => ?_)
                              ·
                                replace hm := ite_t (of_decide_eq_true c12) hm
                                refine sd_skip rfl rfl rfl ?_
                                refine sd_skip rfl rfl rfl ?_
                                refine sd_vv rfl rfl rfl (vv_pickT rfl rfl) ?_
                                refine sd_vv rfl rfl rfl (vv_move rfl) ?_
                                refine sd_skip rfl rfl rfl ?_
                                refine sd_skip rfl rfl rfl ?_
                                refine sd_skip rfl rfl rfl ?_
                                refine sd_skip rfl rfl rfl ?_
                                refine sd_skip rfl rfl rfl ?_
                                refine sd_vv rfl rfl rfl (vv_pickT rfl rfl) ?_
                                refine sd_nil ?_
                                have K_111 : Kz [] w27 w27 := (Kz.refl _ _)
                                refine ⟨rfl, true, ?_, hm, K_111⟩
                                repeat' first | exact trivial | refine ⟨rfl, ?_⟩
                              ·
                                replace hm := ite_f (of_decide_eq_false c12) hm
                                refine sd_vv rfl rfl rfl (vv_move rfl) ?_
                                refine sd_vv rfl rfl rfl (vv_neq (a := x32.2) (b := 0) rfl rfl) ?_
                                refine sd_vv rfl rfl rfl (vv_pickF rfl rfl) ?_
                                refine sd_split rfl rfl rfl (vv_move rfl) (fun c13 => ?_) (fun c13 => ?_)
                                ·
                                  replace hm := ite_t (of_decide_eq_true c13) hm
                                  refine sd_skip rfl rfl rfl ?_
                                  refine sd_skip rfl rfl rfl ?_
                                  refine sd_skip rfl rfl rfl ?_
                                  refine sd_skip rfl rfl rfl ?_
                                  refine sd_skip rfl rfl rfl ?_
                                  refine sd_vv rfl rfl rfl (vv_pickT rfl rfl) ?_
                                  refine sd_nil ?_
                                  have K_112 : Kz [] w27 w27 := (Kz.refl _ _)
                                  refine ⟨rfl, true, ?_, hm, K_112⟩
                                  repeat' first | exact trivial | refine ⟨rfl, ?_⟩
                                ·
                                  replace hm := ite_f (of_decide_eq_false c13) hm
                                  refine sd_vv rfl rfl rfl (vv_move rfl) ?_
                                  refine sd_vv rfl rfl rfl (vv_fieldAddr fa_33_2 rfl) ?_
                                  refine sd_vv rfl rfl rfl (vv_fieldAddr fa_31_1 rfl) ?_
                                  have B113 := (Bx.gr Fw26_2 Gw27)
                                  refine sd_vv rfl rfl rfl (vv_load1 (v := wv a29.Share.Y) one_24 rfl B113 rfl) ?_
                                  refine sd_vv rfl rfl rfl (vv_neqU (c := x32.1) (d := a29.Share.Y) rfl rfl) ?_
                                  refine sd_vv rfl rfl rfl (vv_pickF rfl rfl) ?_
                                  refine sd_nil ?_
                                  have K_114 : Kz [] w27 w27 := (Kz.refl _ _)
                                  refine ⟨rfl, (decide (x32.1 ≠ a29.Share.Y)), ?_, hm, K_114⟩
                                  repeat' first | exact trivial | refine ⟨rfl, ?_⟩
                          ·
                            -- region 30 outright.go:226 DRAWS
                            refine sw_drawN [([])] [] (.fork [(0, 10), (1, 10), (2, 10), (3, 10), (4, 10), (5, 10)] (.leaf [(6, 0), (7, 10), (8, 10), (9, 10), (10, 0), (11, 0), (12, 10)]) (.leaf [(10, 0), (6, 0), (7, 10), (8, 10), (9, 10), (11, 0), (12, 10)])) (by kernel_rfl) (by kernel_rfl) rfl (by kernel_rfl) ?_
                            intro w29 Gw29 zw29
                            refine sdz_fork ?_
                            have B115 := (Bx.gr (Bx.kz (Bx.kz (Bx.kz (Bx.gr (Bx.gr (Bx.kz (Bx.gr (Bx.kz (Bx.gr B24 Gw9) Kw10) Gw11) Kw12 (tk1 ((.inr tk0) : 1 = 0 ∨ gw11 ≠ b1))) Gw17) Gw18) Kw19) Kw20) Kw25) Gw29)
                            refine dd_hn 0 rfl rfl rfl rfl (Kp.refl ([]) w29) (fun w hS => vv_loadW agg_23 rfl (Bx.kp B115 hS) rfl) ?_
                            have B116 := (Bx.gr (Bx.kz (Bx.kz (Bx.kz (Bx.gr B59 Gw18) Kw19) Kw20) Kw25) Gw29)
                            refine dd_hn 0 rfl rfl rfl rfl (Kp.refl ([]) w29) (fun w hS => vv_loadW agg_28 rfl (Bx.kp B116 hS) rfl) ?_
                            refine dd_hn 0 rfl rfl rfl rfl (Kp.refl ([]) w29) (fun w hS => vv_move rfl) ?_
                            refine dd_hn 0 rfl rfl rfl rfl (Kp.refl ([]) w29) (fun w hS => vv_move rfl) ?_
                            have hb := bnd hm; clear hm; obtain ⟨y34, hy34, hm⟩ := hb
                            have B117 := (Rd.gr B99 Gw29)
                            refine dd_hn 0 rfl rfl rfl rfl (Kp.refl ([]) w29) (fun w hS => vv_ixT (i := a27) Try.underlying41 (one_3).siz rfl (Rd.kp B117 hS) rfl hy34) ?_
                            refine dd_hn 0 rfl rfl rfl rfl (Kp.refl ([]) w29) (fun w hS => vv_el1T (q := 0) (u := .int .i64 y34) one_3 rfl (Rd.kp B117 hS) hy34 (by first | rfl | omega) rfl) ?_
                            refine sd_fork ?_ ?_
                            ·
                              refine sdz_leaf ?_
                              have hb := bnd hm; clear hm; obtain ⟨x35, hx35, hm⟩ := hb
                              refine dd_z [] rfl rfl rfl (ev_call en_18 rfl (poly_Secret_w p0 p1 y34 _ hx35 _)) ⟨fun _ => tk0, trivial⟩ ?_
                              rintro _ w30 ⟨u30_r0_1, z30_r0_1, g30_r0_1, rfl, O30_r0_1, f30_r0_1, Gw30⟩
                              have z118 := Gw30.size
                              have lt119 := O30_r0_1.lth
                              refine ⟨Kz.ofGr Gw30, ?_⟩
                              have S120 := (Kp.gr (Kp.refl ([]) w29) Gw30)
                              refine dd_hn 0 rfl rfl rfl rfl S120 (fun w hS => vv_move rfl) ?_
                              refine dd_hn 0 rfl rfl rfl rfl S120 (fun w hS => vv_extract rfl rfl) ?_
                              refine dd_hn 0 rfl rfl rfl rfl S120 (fun w hS => vv_extract rfl rfl) ?_
                              refine dd_z [] rfl rfl rfl (ev_alloc (cs := TSecret.cs (TSecret.mk 0 [] (TPoint.mk 0#64 0#64)) (.slice none 0 0)) zv_33 rfl) ⟨fun _ => tk0, trivial⟩ ?_
                              rintro _ w31 ⟨b31, rfl, hbw31, Bw31, Gw31⟩
                              have z121 := Gw31.size
                              have lt122 := Bw31.lt
                              refine ⟨Kz.ofGr Gw31, ?_⟩
                              have B123 := (Own.gr O30_r0_1 Gw31)
                              refine dd_z [(1, b31)] rfl rfl rfl (ev_stM (cs' := TSecret.cs x35.1 u30_r0_1) (vs := TSecret.cs x35.1 u30_r0_1) (agg_33).siz rfl rfl rfl rfl (TSecret.cs_ones _ _ (Own.oneB B123)) Bw31 rfl rfl) ⟨fun _ => tk0, trivial⟩ ?_
                              rintro _ w32 ⟨Bw32, Mw32⟩
                              have z124 := Mw32.size
                              refine ⟨Kz.ofMd Mw32, ?_⟩
                              have S125 := (Kp.md (Kp.gr S120 Gw31) Mw32)
                              refine dd_hn 0 rfl rfl rfl rfl S125 (fun w hS => vv_assign rfl) ?_
                              refine sd_nil ?_
                              have K_126 : Kz [] w25 w32 := (Kz.md (Kz.gr (Kz.gr (Kz.gr (Kz.refl _ _) Gw29) Gw30) Gw31) Mw32)
                              have B127 := (Own.md B123 Mw32 (tk1 ((pv_lt (A := (fun x => x ≠ b31)) lt119) : z30_r0_1 = 0 ∨ g30_r0_1 ≠ b31)))
                              refine ⟨rfl, ⟨x35.1, x35.2, b31, u30_r0_1, z30_r0_1, g30_r0_1⟩, ?_, hm, B127, ⟨(pv_0 (A := (fun x => w25.heap.size ≤ x)) f30_r0_1)⟩, Bw32, (by omega), ⟨(pv_lt (A := (fun x => x ≠ b31)) lt119)⟩, K_126⟩
                              repeat' first | exact trivial | refine ⟨rfl, ?_⟩
                            ·
                              refine sdz_leaf ?_
                              refine dd_z [] rfl rfl rfl (ev_alloc (cs := TSecret.cs (TSecret.mk 0 [] (TPoint.mk 0#64 0#64)) (.slice none 0 0)) zv_33 rfl) ⟨fun _ => tk0, trivial⟩ ?_
                              rintro _ w33 ⟨b33, rfl, hbw33, Bw33, Gw33⟩
                              have z128 := Gw33.size
                              have lt129 := Bw33.lt
                              refine ⟨Kz.ofGr Gw33, ?_⟩
                              have hb := bnd hm; clear hm; obtain ⟨x36, hx36, hm⟩ := hb
                              refine dd_z [] rfl rfl rfl (ev_call en_18 rfl (poly_Secret_w p0 p1 y34 _ hx36 _)) ⟨fun _ => tk0, trivial⟩ ?_
                              rintro _ w34 ⟨u34_r0_1, z34_r0_1, g34_r0_1, rfl, O34_r0_1, f34_r0_1, Gw34⟩
                              have z130 := Gw34.size
                              have lt131 := O34_r0_1.lth
                              refine ⟨Kz.ofGr Gw34, ?_⟩
                              have S132 := (Kp.gr (Kp.gr (Kp.refl ([]) w29) Gw33) Gw34)
                              refine dd_hn 0 rfl rfl rfl rfl S132 (fun w hS => vv_move rfl) ?_
                              refine dd_hn 0 rfl rfl rfl rfl S132 (fun w hS => vv_extract rfl rfl) ?_
                              refine dd_hn 0 rfl rfl rfl rfl S132 (fun w hS => vv_extract rfl rfl) ?_
                              have B133 := (Bx.gr Bw33 Gw34)
                              refine dd_z [(1, b33)] rfl rfl rfl (ev_stM (cs' := TSecret.cs x36.1 u34_r0_1) (vs := TSecret.cs x36.1 u34_r0_1) (agg_33).siz rfl rfl rfl rfl (TSecret.cs_ones _ _ (Own.oneB O34_r0_1)) B133 rfl rfl) ⟨fun _ => tk0, trivial⟩ ?_
                              rintro _ w35 ⟨Bw35, Mw35⟩
                              have z134 := Mw35.size
                              refine ⟨Kz.ofMd Mw35, ?_⟩
                              have S135 := (Kp.md S132 Mw35)
                              refine dd_hn 0 rfl rfl rfl rfl S135 (fun w hS => vv_assign rfl) ?_
                              refine sd_nil ?_
                              have K_136 : Kz [] w25 w35 := (Kz.md (Kz.gr (Kz.gr (Kz.gr (Kz.refl _ _) Gw29) Gw33) Gw34) Mw35)
                              have B137 := (Own.md O34_r0_1 Mw35 (tk1 ((pv_0 (A := (fun x => x ≠ b33)) f34_r0_1) : z34_r0_1 = 0 ∨ g34_r0_1 ≠ b33)))
                              refine ⟨rfl, ⟨x36.1, x36.2, b33, u34_r0_1, z34_r0_1, g34_r0_1⟩, ?_, hm, B137, ⟨(pv_0 (A := (fun x => w25.heap.size ≤ x)) f34_r0_1)⟩, Bw35, (by omega), ⟨(pv_0 (A := (fun x => x ≠ b33)) f34_r0_1)⟩, K_136⟩
                              repeat' first | exact trivial | refine ⟨rfl, ?_⟩
                        ·
                          replace hm := ite_f (of_decide_eq_false c10) hm
                          refine sw_exit ?_
                          refine then_x ?_
                          refine then_x ?_
                          refine block_x ?_
                          refine then_n ?_
                          refine sw_seq ?_
                          -- region 34 outright.go:232
                          refine sw_region [(0, 0), (1, 0), (2, 0), (3, 0), (4, 0), (5, 0), (6, 0), (7, 0), (8, 0), (9, 0), (10, 0), (11, 0)] rfl rfl rfl ?_
                          refine sd_vv rfl rfl rfl (vv_fieldAddr fa_45_1 rfl) ?_
                          have B138 := (Bx.kz B72 Kw25)
                          refine sd_vv rfl rfl rfl (vv_load1 (v := wv x3.1.Base) one_24 rfl B138 rfl) ?_
                          refine sd_vv rfl rfl rfl (vv_move rfl) ?_
                          refine sd_vv rfl rfl rfl (vv_fieldAddr fa_28_3 rfl) ?_
                          refine sd_vv rfl rfl rfl (vv_fieldAddr fa_26_0 rfl) ?_
                          have B139 := (Bx.kz (Bx.kz (Bx.kz (Bx.gr B59 Gw18) Kw19) Kw20) Kw25)
                          refine sd_vv rfl rfl rfl (vv_load1 (v := wv p1.Group.P) one_24 rfl B139 rfl) ?_
                          have hb := bnd hm; clear hm; obtain ⟨x37, hx37, hm⟩ := hb
                          refine sd_ev rfl rfl rfl (ev_call en_61 rfl (number_PowMod_w x3.1.Base p5 p1.Group.P _ hx37 _)) ?_
                          rintro _ w36 ⟨rfl, Gw36⟩
                          have z140 := Gw36.size
                          refine sd_vv rfl rfl rfl (vv_move rfl) ?_
                          refine sd_vv rfl rfl rfl (vv_extract rfl rfl) ?_
                          refine sd_vv rfl rfl rfl (vv_extract rfl rfl) ?_
                          refine sd_vv rfl rfl rfl (vv_assign rfl) ?_
                          refine sd_vv rfl rfl rfl (vv_assign rfl) ?_
                          refine sd_done ?_
                          refine sw_seq ?_
                          -- region 35 outright.go:233
                          refine sw_region [(0, 0), (1, 0), (2, 0), (3, 0), (4, 0), (5, 0), (6, 0), (7, 0), (8, 0), (9, 0), (10, 0), (11, 0)] rfl rfl rfl ?_
                          refine sd_vv rfl rfl rfl (vv_fieldAddr fa_45_1 rfl) ?_
                          have B141 := (Bx.gr B138 Gw36)
                          refine sd_vv rfl rfl rfl (vv_load1 (v := wv x3.1.Base) one_24 rfl B141 rfl) ?_
                          refine sd_vv rfl rfl rfl (vv_move rfl) ?_
                          refine sd_vv rfl rfl rfl (vv_fieldAddr fa_28_3 rfl) ?_
                          refine sd_vv rfl rfl rfl (vv_fieldAddr fa_26_0 rfl) ?_
                          have B142 := (Bx.gr B139 Gw36)
                          refine sd_vv rfl rfl rfl (vv_load1 (v := wv p1.Group.P) one_24 rfl B142 rfl) ?_
                          have hb := bnd hm; clear hm; obtain ⟨x38, hx38, hm⟩ := hb
                          refine sd_ev rfl rfl rfl (ev_call en_61 rfl (number_PowMod_w x3.1.Base p6 p1.Group.P _ hx38 _)) ?_
                          rintro _ w37 ⟨rfl, Gw37⟩
                          have z143 := Gw37.size
                          refine sd_vv rfl rfl rfl (vv_move rfl) ?_
                          refine sd_vv rfl rfl rfl (vv_extract rfl rfl) ?_
                          refine sd_vv rfl rfl rfl (vv_extract rfl rfl) ?_
                          refine sd_vv rfl rfl rfl (vv_assign rfl) ?_
                          refine sd_vv rfl rfl rfl (vv_assign rfl) ?_
                          refine sd_done ?_
                          refine sw_seq ?_
                          -- region 36 outright.go:234
                          refine sw_region [(0, 0), (1, 0), (2, 0), (3, 0), (4, 0), (5, 0), (6, 0), (7, 0), (8, 0), (9, 0), (10, 0), (11, 0), (12, 0), (13, 0), (14, 0), (15, 0), (16, 0), (17, 0), (18, 0)] rfl rfl rfl ?_
                          refine sd_vv rfl rfl rfl (vv_move rfl) ?_
                          refine sd_split rfl rfl rfl (vv_move rfl) (fun c14 => ?_) (fun c14 => ?_)
                          ·
                            replace hm := cnd_t c14 hm
                            refine sd_vv rfl rfl rfl (vv_move rfl) ?_
                            refine sd_vv rfl rfl rfl (vv_eql (a := x37.2) (b := 0) rfl rfl) ?_
                            refine sd_vv rfl rfl rfl (vv_pickT rfl rfl) ?_
                            refine sd_split rfl rfl rfl (vv_move rfl) (fun c15 => ?_) (fun c15 => ?_)
                            ·
                              replace hm := ite_t (of_decide_eq_true c15) hm
                              refine sd_vv rfl rfl rfl (vv_move rfl) ?_
                              refine sd_vv rfl rfl rfl (vv_eql (a := x38.2) (b := 0) rfl rfl) ?_
                              refine sd_vv rfl rfl rfl (vv_pickT rfl rfl) ?_
                              refine sd_split rfl rfl rfl (vv_move rfl) (fun c16 => ?_) (fun c16 => ?_)
                              ·
                                replace hm := ite_t (of_decide_eq_true c16) hm
                                refine sd_vv rfl rfl rfl (vv_move rfl) ?_
                                refine sd_vv rfl rfl rfl (vv_move rfl) ?_
                                refine sd_vv rfl rfl rfl (vv_eqlU (c := x37.1) (d := x38.1) rfl rfl) ?_
                                refine sd_vv rfl rfl rfl (vv_move rfl) ?_
                                refine sd_vv rfl rfl rfl (vv_move rfl) ?_
                                refine sd_vv rfl rfl rfl (vv_eqlU (c := p5) (d := p6) rfl rfl) ?_
                                refine sd_vv rfl rfl rfl (vv_eqlL Try.underlying4 rfl rfl) ?_
                                refine sd_vv rfl rfl rfl (vv_pickT rfl rfl) ?_
                                refine sd_vv rfl rfl rfl (vv_assign rfl) ?_
                                refine sd_done ?_
                                refine sw_ret ?_
                                have X144 : Gr w w37 := (Gr.trans (Gr.trans (Gr.kz X92 Kw25) Gw36) Gw37)
                                have hr := Option.some.inj hm
                                subst hr
                                refine ⟨_, _, rfl, res_1 rfl (rv_tmp rfl), ?_⟩
                                exact ⟨rfl, X144⟩
                              ·
                                replace hm := ite_f (of_decide_eq_false c16) hm
                                refine sd_skip rfl rfl rfl ?_
                                refine sd_skip rfl rfl rfl ?_
                                refine sd_skip rfl rfl rfl ?_
                                refine sd_skip rfl rfl rfl ?_
                                refine sd_skip rfl rfl rfl ?_
                                refine sd_skip rfl rfl rfl ?_
                                refine sd_skip rfl rfl rfl ?_
                                refine sd_vv rfl rfl rfl (vv_pickF rfl rfl) ?_
                                refine sd_vv rfl rfl rfl (vv_assign rfl) ?_
                                refine sd_done ?_
                                refine sw_ret ?_
                                have X145 : Gr w w37 := (Gr.trans (Gr.trans (Gr.kz X92 Kw25) Gw36) Gw37)
                                have hr := Option.some.inj hm
                                subst hr
                                refine ⟨_, _, rfl, res_1 rfl (rv_tmp rfl), ?_⟩
                                exact ⟨rfl, X145⟩
                            ·
                              replace hm := ite_f (of_decide_eq_false c15) hm
                              refine sd_skip rfl rfl rfl ?_
                              refine sd_skip rfl rfl rfl ?_
                              refine sd_vv rfl rfl rfl (vv_pickF rfl rfl) ?_
                              refine sd_vv rfl rfl rfl (vv_move rfl) ?_
                              refine sd_skip rfl rfl rfl ?_
                              refine sd_skip rfl rfl rfl ?_
                              refine sd_skip rfl rfl rfl ?_
                              refine sd_skip rfl rfl rfl ?_
                              refine sd_skip rfl rfl rfl ?_
                              refine sd_skip rfl rfl rfl ?_
                              refine sd_skip rfl rfl rfl ?_
                              refine sd_vv rfl rfl rfl (vv_pickF rfl rfl) ?_
                              refine sd_vv rfl rfl rfl (vv_assign rfl) ?_
                              refine sd_done ?_
                              refine sw_ret ?_
                              have X146 : Gr w w37 := (Gr.trans (Gr.trans (Gr.kz X92 Kw25) Gw36) Gw37)
                              have hr := Option.some.inj hm
                              subst hr
                              refine ⟨_, _, rfl, res_1 rfl (rv_tmp rfl), ?_⟩
                              exact ⟨rfl, X146⟩
                          ·
                            replace hm := cnd_f c14 hm
                            refine sd_skip rfl rfl rfl ?_
                            refine sd_skip rfl rfl rfl ?_
                            refine sd_vv rfl rfl rfl (vv_pickF rfl rfl) ?_
                            refine sd_vv rfl rfl rfl (vv_move rfl) ?_
                            refine sd_skip rfl rfl rfl ?_
                            refine sd_skip rfl rfl rfl ?_
                            refine sd_vv rfl rfl rfl (vv_pickF rfl rfl) ?_
                            refine sd_vv rfl rfl rfl (vv_move rfl) ?_
                            refine sd_skip rfl rfl rfl ?_
                            refine sd_skip rfl rfl rfl ?_
                            refine sd_skip rfl rfl rfl ?_
                            refine sd_skip rfl rfl rfl ?_
                            refine sd_skip rfl rfl rfl ?_
                            refine sd_skip rfl rfl rfl ?_
                            refine sd_skip rfl rfl rfl ?_
                            refine sd_vv rfl rfl rfl (vv_pickF rfl rfl) ?_
                            refine sd_vv rfl rfl rfl (vv_assign rfl) ?_
                            refine sd_done ?_
                            refine sw_ret ?_
                            have X147 : Gr w w37 := (Gr.trans (Gr.trans (Gr.kz X92 Kw25) Gw36) Gw37)
                            have hr := Option.some.inj hm
                            subst hr
                            refine ⟨_, _, rfl, res_1 rfl (rv_tmp rfl), ?_⟩
                            exact ⟨rfl, X147⟩
              ·
                -- region 18 outright.go:215
                refine sw_region [(0, 0), (1, 0), (2, 0), (3, 0), (4, 0), (5, 0), (6, 0), (7, 0), (8, 0), (9, 0), (10, 0)] rfl rfl rfl ?_
                refine sd_vv rfl rfl rfl (vv_move rfl) ?_
                refine sd_vv rfl rfl rfl (vv_neq (a := x16.2) (b := 0) rfl rfl) ?_
                refine sd_split rfl rfl rfl (vv_move rfl) (fun c17 => ?_) (fun c17 => ?_)
                ·
                  replace hm := ite_t (of_decide_eq_true c17) hm
                  refine sd_skip rfl rfl rfl ?_
                  refine sd_skip rfl rfl rfl ?_
                  refine sd_vv rfl rfl rfl (vv_pickT rfl rfl) ?_
                  refine sd_vv rfl rfl rfl (vv_move rfl) ?_
                  refine sd_skip rfl rfl rfl ?_
                  refine sd_skip rfl rfl rfl ?_
                  refine sd_skip rfl rfl rfl ?_
                  refine sd_vv rfl rfl rfl (vv_pickT rfl rfl) ?_
                  refine sd_nil ?_
                  have K_148 : Kz [] w18 w18 := (Kz.refl _ _)
                  refine ⟨rfl, true, ?_, hm, K_148⟩
                  repeat' first | exact trivial | refine ⟨rfl, ?_⟩
                ·
                  replace hm := ite_f (of_decide_eq_false c17) hm
                  refine sd_vv rfl rfl rfl (vv_move rfl) ?_
                  refine sd_vv rfl rfl rfl (vv_neq (a := x17.2) (b := 0) rfl rfl) ?_
                  refine sd_vv rfl rfl rfl (vv_pickF rfl rfl) ?_
                  refine sd_split rfl rfl rfl (vv_move rfl) (fun c18 => ?_) (fun c18 => ?_)
                  ·
                    replace hm := ite_t (of_decide_eq_true c18) hm
                    refine sd_skip rfl rfl rfl ?_
                    refine sd_skip rfl rfl rfl ?_
                    refine sd_skip rfl rfl rfl ?_
                    refine sd_vv rfl rfl rfl (vv_pickT rfl rfl) ?_
                    refine sd_nil ?_
                    have K_149 : Kz [] w18 w18 := (Kz.refl _ _)
                    refine ⟨rfl, true, ?_, hm, K_149⟩
                    repeat' first | exact trivial | refine ⟨rfl, ?_⟩
                  ·
                    replace hm := ite_f (of_decide_eq_false c18) hm
                    refine sd_vv rfl rfl rfl (vv_move rfl) ?_
                    refine sd_vv rfl rfl rfl (vv_move rfl) ?_
                    refine sd_vv rfl rfl rfl (vv_neqU (c := x17.1) (d := p5) rfl rfl) ?_
                    refine sd_vv rfl rfl rfl (vv_pickF rfl rfl) ?_
                    refine sd_nil ?_
                    have K_150 : Kz [] w18 w18 := (Kz.refl _ _)
                    refine ⟨rfl, (decide (x17.1 ≠ p5)), ?_, hm, K_150⟩
                    repeat' first | exact trivial | refine ⟨rfl, ?_⟩
      ·
        -- region 6 outright.go:202
        refine sw_region [(0, 0), (1, 0), (2, 0), (3, 0), (4, 0), (5, 0), (6, 0), (7, 0), (8, 0), (9, 0), (10, 0), (11, 0), (12, 0), (13, 0)] rfl rfl rfl ?_
        refine sd_vv rfl rfl rfl (vv_move rfl) ?_
        refine sd_vv rfl rfl rfl (vv_neq (a := x3.2) (b := 0) rfl rfl) ?_
        refine sd_split rfl rfl rfl (vv_move rfl) (fun c19 => ?_) (fun c19 => ?_)
        ·
          replace hm := ite_t (of_decide_eq_true c19) hm
          refine sd_skip rfl rfl rfl ?_
          refine sd_skip rfl rfl rfl ?_
          refine sd_vv rfl rfl rfl (vv_pickT rfl rfl) ?_
          refine sd_vv rfl rfl rfl (vv_move rfl) ?_
          refine sd_skip rfl rfl rfl ?_
          refine sd_skip rfl rfl rfl ?_
          refine sd_skip rfl rfl rfl ?_
          refine sd_skip rfl rfl rfl ?_
          refine sd_skip rfl rfl rfl ?_
          refine sd_skip rfl rfl rfl ?_
          refine sd_vv rfl rfl rfl (vv_pickT rfl rfl) ?_
          refine sd_nil ?_
          have K_151 : Kz [] w9 w9 := (Kz.refl _ _)
          refine ⟨rfl, true, ?_, hm, K_151⟩
          repeat' first | exact trivial | refine ⟨rfl, ?_⟩
        ·
          replace hm := ite_f (of_decide_eq_false c19) hm
          refine sd_vv rfl rfl rfl (vv_move rfl) ?_
          refine sd_vv rfl rfl rfl (vv_neq (a := x4.2) (b := 0) rfl rfl) ?_
          refine sd_vv rfl rfl rfl (vv_pickF rfl rfl) ?_
          refine sd_split rfl rfl rfl (vv_move rfl) (fun c20 => ?_) (fun c20 => ?_)
          ·
            replace hm := ite_t (of_decide_eq_true c20) hm
            refine sd_skip rfl rfl rfl ?_
            refine sd_skip rfl rfl rfl ?_
            refine sd_skip rfl rfl rfl ?_
            refine sd_skip rfl rfl rfl ?_
            refine sd_skip rfl rfl rfl ?_
            refine sd_skip rfl rfl rfl ?_
            refine sd_vv rfl rfl rfl (vv_pickT rfl rfl) ?_
            refine sd_nil ?_
            have K_152 : Kz [] w9 w9 := (Kz.refl _ _)
            refine ⟨rfl, true, ?_, hm, K_152⟩
            repeat' first | exact trivial | refine ⟨rfl, ?_⟩
          ·
            replace hm := ite_f (of_decide_eq_false c20) hm
            refine sd_vv rfl rfl rfl (vv_fieldAddr fa_45_2 rfl) ?_
            have B153 := (Bx.gr Bw8 Gw9)
            refine sd_vv rfl rfl rfl (vv_load1 (v := u6_r0_2) one_43 rfl B153 rfl) ?_
            have B154 := (Own.gr (Own.md B22 Mw8 (tk1 ((pv_lt (A := (fun x => x ≠ b7)) lt18) : z6_r0_2 = 0 ∨ g6_r0_2 ≠ b7))) Gw9)
            refine sd_vv rfl rfl rfl (vv_lenT (l := x3.1.Points) (c := TPoint.cs) Try.underlying43 rfl (Own.rd B154)) ?_
            refine sd_vv rfl rfl rfl (vv_fieldAddr fa_28_2 rfl) ?_
            have B155 := (Bx.gr B25 Gw9)
            refine sd_vv rfl rfl rfl (vv_load1 (v := .int .i64 p1.Degree) one_3 rfl B155 rfl) ?_
            refine sd_vv rfl rfl rfl (vv_neq (a := (x3.1.Points.length : Int)) (b := p1.Degree) rfl rfl) ?_
            refine sd_vv rfl rfl rfl (vv_pickF rfl rfl) ?_
            refine sd_nil ?_
            have K_156 : Kz [] w9 w9 := (Kz.refl _ _)
            refine ⟨rfl, (decide ((x3.1.Points.length : Int) ≠ p1.Degree)), ?_, hm, K_156⟩
            repeat' first | exact trivial | refine ⟨rfl, ?_⟩
  ·
    -- region 2 outright.go:197
    refine sw_region [(0, 0), (1, 0), (2, 0), (3, 0), (4, 0), (5, 0), (6, 0), (7, 0), (8, 0), (9, 0), (10, 0), (11, 0), (12, 0), (13, 0), (14, 0), (15, 0), (16, 0), (17, 0), (18, 0), (19, 0), (20, 0), (21, 0), (22, 0), (23, 0), (24, 0), (25, 0), (26, 0), (27, 0), (28, 0), (29, 0), (30, 0)] rfl rfl rfl ?_
    have B157 := (Bx.gr (Bx.gr Bw2 Gw3) Gw4)
    refine sd_vv rfl rfl rfl (vv_loadW agg_28 rfl B157 rfl) ?_
    have hb := bnd hm; clear hm; obtain ⟨x39, hx39, hm⟩ := hb
    refine sd_ev rfl rfl rfl (ev_call en_53 rfl (ref04_Valid_w p1 _ hx39 _)) ?_
    rintro _ w38 ⟨rfl, Gw38⟩
    have z158 := Gw38.size
    refine sd_vv rfl rfl rfl (vv_not rfl) ?_
    refine sd_split rfl rfl rfl (vv_move rfl) (fun c21 => ?_) (fun c21 => ?_)
    ·
      replace hm := cnd_t c21 hm
      refine sd_skip rfl rfl rfl ?_
      refine sd_skip rfl rfl rfl ?_
      refine sd_skip rfl rfl rfl ?_
      refine sd_skip rfl rfl rfl ?_
      refine sd_skip rfl rfl rfl ?_
      refine sd_vv rfl rfl rfl (vv_pickT rfl rfl) ?_
      refine sd_vv rfl rfl rfl (vv_move rfl) ?_
      refine sd_skip rfl rfl rfl ?_
      refine sd_skip rfl rfl rfl ?_
      refine sd_skip rfl rfl rfl ?_
      refine sd_skip rfl rfl rfl ?_
      refine sd_skip rfl rfl rfl ?_
      refine sd_vv rfl rfl rfl (vv_pickT rfl rfl) ?_
      refine sd_vv rfl rfl rfl (vv_move rfl) ?_
      refine sd_skip rfl rfl rfl ?_
      refine sd_skip rfl rfl rfl ?_
      refine sd_skip rfl rfl rfl ?_
      refine sd_skip rfl rfl rfl ?_
      refine sd_skip rfl rfl rfl ?_
      refine sd_vv rfl rfl rfl (vv_pickT rfl rfl) ?_
      refine sd_vv rfl rfl rfl (vv_move rfl) ?_
      refine sd_skip rfl rfl rfl ?_
      refine sd_skip rfl rfl rfl ?_
      refine sd_skip rfl rfl rfl ?_
      refine sd_skip rfl rfl rfl ?_
      refine sd_skip rfl rfl rfl ?_
      refine sd_vv rfl rfl rfl (vv_pickT rfl rfl) ?_
      refine sd_nil ?_
      have K_159 : Kz [] w4 w38 := (Kz.gr (Kz.refl _ _) Gw38)
      refine ⟨rfl, true, ?_, hm, K_159⟩
      repeat' first | exact trivial | refine ⟨rfl, ?_⟩
    ·
      replace hm := cnd_f c21 hm
      refine sd_vv rfl rfl rfl (vv_fieldAddr fa_28_1 rfl) ?_
      have B160 := (Bx.gr B157 Gw38)
      refine sd_vv rfl rfl rfl (vv_load1 (v := .int .i64 p1.Depth) one_3 rfl B160 rfl) ?_
      refine sd_vv rfl rfl rfl (vv_move rfl) ?_
      have B161 := (Rd.gr (Rd.gr (Rd.gr (Rd.gr (Rd.gr hp2 Gw1) Gw2) Gw3) Gw4) Gw38)
      have hb := bnd hm; clear hm; obtain ⟨x40, hx40, hm⟩ := hb
      refine sd_ev rfl rfl rfl (ev_call en_57 rfl (ref03_IsList_w p1.Depth p2 _ _ _ _ _ hx40 _ B161)) ?_
      rintro _ w39 ⟨rfl, Gw39⟩
      have z162 := Gw39.size
      refine sd_vv rfl rfl rfl (vv_not rfl) ?_
      refine sd_vv rfl rfl rfl (vv_pickF rfl rfl) ?_
      refine sd_split rfl rfl rfl (vv_move rfl) (fun c22 => ?_) (fun c22 => ?_)
      ·
        replace hm := cnd_t c22 hm
        refine sd_skip rfl rfl rfl ?_
        refine sd_skip rfl rfl rfl ?_
        refine sd_skip rfl rfl rfl ?_
        refine sd_skip rfl rfl rfl ?_
        refine sd_skip rfl rfl rfl ?_
        refine sd_vv rfl rfl rfl (vv_pickT rfl rfl) ?_
        refine sd_vv rfl rfl rfl (vv_move rfl) ?_
        refine sd_skip rfl rfl rfl ?_
        refine sd_skip rfl rfl rfl ?_
        refine sd_skip rfl rfl rfl ?_
        refine sd_skip rfl rfl rfl ?_
        refine sd_skip rfl rfl rfl ?_
        refine sd_vv rfl rfl rfl (vv_pickT rfl rfl) ?_
        refine sd_vv rfl rfl rfl (vv_move rfl) ?_
        refine sd_skip rfl rfl rfl ?_
        refine sd_skip rfl rfl rfl ?_
        refine sd_skip rfl rfl rfl ?_
        refine sd_skip rfl rfl rfl ?_
        refine sd_skip rfl rfl rfl ?_
        refine sd_vv rfl rfl rfl (vv_pickT rfl rfl) ?_
        refine sd_nil ?_
        have K_163 : Kz [] w4 w39 := (Kz.gr (Kz.gr (Kz.refl _ _) Gw38) Gw39)
        refine ⟨rfl, true, ?_, hm, K_163⟩
        repeat' first | exact trivial | refine ⟨rfl, ?_⟩
      ·
        replace hm := cnd_f c22 hm
        refine sd_vv rfl rfl rfl (vv_move rfl) ?_
        have B164 := (Rd.gr B161 Gw39)
        refine sd_vv rfl rfl rfl (vv_lenT (l := p2) (c := ic) Try.underlying41 rfl B164) ?_
        refine sd_vv rfl rfl rfl (vv_fieldAddr fa_28_2 rfl) ?_
        have B165 := (Bx.gr B160 Gw39)
        refine sd_vv rfl rfl rfl (vv_load1 (v := .int .i64 p1.Degree) one_3 rfl B165 rfl) ?_
        refine sd_vv rfl rfl rfl (vv_gtr (a := (p2.length : Int)) (b := p1.Degree) rfl rfl) ?_
        refine sd_vv rfl rfl rfl (vv_pickF rfl rfl) ?_
        refine sd_split rfl rfl rfl (vv_move rfl) (fun c23 => ?_) (fun c23 => ?_)
        ·
          replace hm := ite_t (of_decide_eq_true c23) hm
          refine sd_skip rfl rfl rfl ?_
          refine sd_skip rfl rfl rfl ?_
          refine sd_skip rfl rfl rfl ?_
          refine sd_skip rfl rfl rfl ?_
          refine sd_skip rfl rfl rfl ?_
          refine sd_vv rfl rfl rfl (vv_pickT rfl rfl) ?_
          refine sd_vv rfl rfl rfl (vv_move rfl) ?_
          refine sd_skip rfl rfl rfl ?_
          refine sd_skip rfl rfl rfl ?_
          refine sd_skip rfl rfl rfl ?_
          refine sd_skip rfl rfl rfl ?_
          refine sd_skip rfl rfl rfl ?_
          refine sd_vv rfl rfl rfl (vv_pickT rfl rfl) ?_
          refine sd_nil ?_
          have K_166 : Kz [] w4 w39 := (Kz.gr (Kz.gr (Kz.refl _ _) Gw38) Gw39)
          refine ⟨rfl, true, ?_, hm, K_166⟩
          repeat' first | exact trivial | refine ⟨rfl, ?_⟩
        ·
          replace hm := ite_f (of_decide_eq_false c23) hm
          refine sd_vv rfl rfl rfl (vv_move rfl) ?_
          refine sd_vv rfl rfl rfl (vv_fieldAddr fa_28_3 rfl) ?_
          refine sd_vv rfl rfl rfl (vv_fieldAddr fa_26_1 rfl) ?_
          refine sd_vv rfl rfl rfl (vv_load1 (v := wv p1.Group.Q) one_24 rfl B165 rfl) ?_
          refine sd_vv rfl rfl rfl (vv_geqU (c := p5) (d := p1.Group.Q) rfl rfl) ?_
          refine sd_vv rfl rfl rfl (vv_pickF rfl rfl) ?_
          refine sd_split rfl rfl rfl (vv_move rfl) (fun c24 => ?_) (fun c24 => ?_)
          ·
            replace hm := ite_t (of_decide_eq_true c24) hm
            refine sd_skip rfl rfl rfl ?_
            refine sd_skip rfl rfl rfl ?_
            refine sd_skip rfl rfl rfl ?_
            refine sd_skip rfl rfl rfl ?_
            refine sd_skip rfl rfl rfl ?_
            refine sd_vv rfl rfl rfl (vv_pickT rfl rfl) ?_
            refine sd_nil ?_
            have K_167 : Kz [] w4 w39 := (Kz.gr (Kz.gr (Kz.refl _ _) Gw38) Gw39)
            refine ⟨rfl, true, ?_, hm, K_167⟩
            repeat' first | exact trivial | refine ⟨rfl, ?_⟩
          ·
            replace hm := ite_f (of_decide_eq_false c24) hm
            refine sd_vv rfl rfl rfl (vv_move rfl) ?_
            refine sd_vv rfl rfl rfl (vv_fieldAddr fa_28_3 rfl) ?_
            refine sd_vv rfl rfl rfl (vv_fieldAddr fa_26_1 rfl) ?_
            refine sd_vv rfl rfl rfl (vv_load1 (v := wv p1.Group.Q) one_24 rfl B165 rfl) ?_
            refine sd_vv rfl rfl rfl (vv_geqU (c := p6) (d := p1.Group.Q) rfl rfl) ?_
            refine sd_vv rfl rfl rfl (vv_pickF rfl rfl) ?_
            refine sd_nil ?_
            have K_168 : Kz [] w4 w39 := (Kz.gr (Kz.gr (Kz.refl _ _) Gw38) Gw39)
            refine ⟨rfl, (decide (p1.Group.Q ≤ p6)), ?_, hm, K_168⟩
            repeat' first | exact trivial | refine ⟨rfl, ?_⟩
end Go.Proofs.Ytkdghilkigojgaa.Mx
