/- Walks that follow mirrors: Pu. Printed by mx.py. -/
import Derived.Test.YtkdghilkigojgaaPp
import Derived.Test.YtkdghilkigojgaaPuM
set_option linter.unusedVariables false
set_option linter.unusedSimpArgs false
set_option maxRecDepth 100000
namespace Go.Proofs.Ytkdghilkigojgaa.Mx
open Go Go.RowKit Go.Sx
theorem en_38 : En Try.prog 38 := fun _ _ => by kernel_rfl
theorem en_39 : En Try.prog 39 := fun _ _ => by kernel_rfl
theorem en_40 : En Try.prog 40 := fun _ _ => by kernel_rfl
theorem en_41 : En Try.prog 41 := fun _ _ => by kernel_rfl
theorem en_43 : En Try.prog 43 := fun _ _ => by kernel_rfl
theorem en_44 : En Try.prog 44 := fun _ _ => by kernel_rfl
theorem en_45 : En Try.prog 45 := fun _ _ => by kernel_rfl
theorem en_46 : En Try.prog 46 := fun _ _ => by kernel_rfl
theorem en_47 : En Try.prog 47 := fun _ _ => by kernel_rfl

set_option maxHeartbeats 2000000 in
theorem law04_PolyPunctures_w (p0 : W2) (p1 : Int) (p2 : TPunctured) (p3 : Int) (vp2_1 : Value) (zp2_1 gp2_1 op2_1 : Nat) (r : Bool) (hm : law04_PolyPunctures p0 p1 p2 p3 = some r) (w : World) (hp2_1 : Rd w zp2_1 gp2_1 op2_1 18 vp2_1 (p2.Labels.map TLabel.cs))  :
    Calls Try.prog 7 [kv p0, .int .i64 p1, .agg (TPunctured.cs p2 vp2_1).toArray, .int .i64 p3].toArray w fun e w' => ∃ v, e = .returned v ∧ (v = .bool r ∧ Gr w w') := by
  have lt1 := hp2_1.lth
  unfold law04_PolyPunctures at hm
  refine calls_of_sw (R := fun v w' => v = .bool r ∧ Gr w w') 109 Try.func7 rfl rfl rfl ?_
  refine sw_seq ?_
  -- region 0 law.go:62
  refine sw_region [(0, 0), (1, 0), (2, 0)] rfl rfl rfl ?_
  refine sd_ev rfl rfl rfl (ev_box (cs := kb p0) rfl rfl) ?_
  rintro _ w1 ⟨b1, rfl, hbw1, Bw1, Gw1⟩
  have z2 := Gw1.size
  have lt3 := Bw1.lt
  refine sd_ev rfl rfl rfl (ev_box (cs := TPunctured.cs p2 vp2_1) rfl rfl) ?_
  rintro _ w2 ⟨b2, rfl, hbw2, Bw2, Gw2⟩
  have z4 := Gw2.size
  have lt5 := Bw2.lt
  refine sd_vv rfl rfl rfl (vv_assign rfl) ?_
  refine sd_done ?_
  refine sw_seq ?_
  -- region 1 law.go:63
  refine sw_region [(0, 0), (1, 0), (2, 0), (3, 0)] rfl rfl rfl ?_
  refine sd_vv rfl rfl rfl (vv_loadW agg_76 rfl Bw2 rfl) ?_
  have B6 := (Rd.gr (Rd.gr hp2_1 Gw1) Gw2)
  have hb := bnd hm; clear hm; obtain ⟨x1, hx1, hm⟩ := hb
  refine sd_ev rfl rfl rfl (ev_call en_38 rfl (ref04_TwinPunctured_w p2 _ _ _ _ _ hx1 _ B6)) ?_
  rintro _ w3 ⟨u3_r0_1, z3_r0_1, g3_r0_1, rfl, O3_r0_1, f3_r0_1, Gw3⟩
  have z7 := Gw3.size
  have lt8 := O3_r0_1.lth
  refine sd_ev rfl rfl rfl (ev_alloc (cs := TPunctured.cs (TPunctured.mk 0 []) (.slice none 0 0)) zv_76 rfl) ?_
  rintro _ w4 ⟨b4, rfl, hbw4, Bw4, Gw4⟩
  have z9 := Gw4.size
  have lt10 := Bw4.lt
  have B11 := (Own.gr O3_r0_1 Gw4)
  refine sd_ev rfl rfl rfl (ev_stM (cs' := TPunctured.cs x1 u3_r0_1) (vs := TPunctured.cs x1 u3_r0_1) (agg_76).siz rfl rfl rfl rfl (TPunctured.cs_ones _ _ (Own.oneB B11)) Bw4 rfl rfl) ?_
  rintro _ w5 ⟨Bw5, Mw5⟩
  have z12 := Mw5.size
  refine sd_done ?_
  refine sw_seq ?_
  -- region 2 law.go:64
  refine sw_region [(0, 0), (1, 0), (2, 0), (3, 0), (4, 0), (5, 0), (6, 0), (7, 0), (8, 0)] rfl rfl rfl ?_
  have B13 := (Bx.md (Bx.gr (Bx.gr (Bx.gr Bw1 Gw2) Gw3) Gw4) Mw5)
  refine sd_vv rfl rfl rfl (vv_loadW agg_23 rfl B13 rfl) ?_
  refine sd_vv rfl rfl rfl (vv_move rfl) ?_
  have hb := bnd hm; clear hm; obtain ⟨x2, hx2, hm⟩ := hb
  refine sd_ev rfl rfl rfl (ev_call en_39 rfl (poly_Full_w p0 p1 _ hx2 _)) ?_
  rintro _ w6 ⟨u6_r0_1, z6_r0_1, g6_r0_1, rfl, O6_r0_1, f6_r0_1, Gw6⟩
  have z14 := Gw6.size
  have lt15 := O6_r0_1.lth
  refine sd_vv rfl rfl rfl (vv_move rfl) ?_
  refine sd_vv rfl rfl rfl (vv_extract rfl rfl) ?_
  refine sd_vv rfl rfl rfl (vv_extract rfl rfl) ?_
  refine sd_ev rfl rfl rfl (ev_alloc (cs := TPunctured.cs (TPunctured.mk 0 []) (.slice none 0 0)) zv_76 rfl) ?_
  rintro _ w7 ⟨b7, rfl, hbw7, Bw7, Gw7⟩
  have z16 := Gw7.size
  have lt17 := Bw7.lt
  have B18 := (Own.gr O6_r0_1 Gw7)
  refine sd_ev rfl rfl rfl (ev_stM (cs' := TPunctured.cs x2.1 u6_r0_1) (vs := TPunctured.cs x2.1 u6_r0_1) (agg_76).siz rfl rfl rfl rfl (TPunctured.cs_ones _ _ (Own.oneB B18)) Bw7 rfl rfl) ?_
  rintro _ w8 ⟨Bw8, Mw8⟩
  have z19 := Mw8.size
  refine sd_vv rfl rfl rfl (vv_assign rfl) ?_
  refine sd_done ?_
  refine sw_seq ?_
  -- region 3 law.go:65
  refine sw_region [(0, 0), (1, 0), (2, 0), (3, 0), (4, 0), (5, 0), (6, 0), (7, 0), (8, 0)] rfl rfl rfl ?_
  have B20 := (Bx.md (Bx.gr (Bx.gr B13 Gw6) Gw7) Mw8)
  refine sd_vv rfl rfl rfl (vv_loadW agg_23 rfl B20 rfl) ?_
  refine sd_vv rfl rfl rfl (vv_move rfl) ?_
  have hb := bnd hm; clear hm; obtain ⟨x3, hx3, hm⟩ := hb
  refine sd_ev rfl rfl rfl (ev_call en_40 rfl (ref04_Full_w p0 p1 _ hx3 _)) ?_
  rintro _ w9 ⟨u9_r0_1, z9_r0_1, g9_r0_1, rfl, O9_r0_1, f9_r0_1, Gw9⟩
  have z21 := Gw9.size
  have lt22 := O9_r0_1.lth
  refine sd_vv rfl rfl rfl (vv_move rfl) ?_
  refine sd_vv rfl rfl rfl (vv_extract rfl rfl) ?_
  refine sd_vv rfl rfl rfl (vv_extract rfl rfl) ?_
  refine sd_ev rfl rfl rfl (ev_alloc (cs := TPunctured.cs (TPunctured.mk 0 []) (.slice none 0 0)) zv_76 rfl) ?_
  rintro _ w10 ⟨b10, rfl, hbw10, Bw10, Gw10⟩
  have z23 := Gw10.size
  have lt24 := Bw10.lt
  have B25 := (Own.gr O9_r0_1 Gw10)
  refine sd_ev rfl rfl rfl (ev_stM (cs' := TPunctured.cs x3.1 u9_r0_1) (vs := TPunctured.cs x3.1 u9_r0_1) (agg_76).siz rfl rfl rfl rfl (TPunctured.cs_ones _ _ (Own.oneB B25)) Bw10 rfl rfl) ?_
  rintro _ w11 ⟨Bw11, Mw11⟩
  have z26 := Mw11.size
  refine sd_vv rfl rfl rfl (vv_assign rfl) ?_
  refine sd_done ?_
  refine sw_seq ?_
  have X27 : Gr w w11 := (Gr.md (Gr.trans (Gr.trans (Gr.md (Gr.trans (Gr.trans (Gr.md (Gr.trans (Gr.trans (Gr.trans (Gr.trans (Gr.refl w) Gw1) Gw2) Gw3) Gw4) Mw5) Gw6) Gw7) Mw8) Gw9) Gw10) Mw11)
  refine sw_joinD (β := Bool) [31, 32, 33, 34, 35, 36, 37, 38, 39, 40, 41, 42, 43, 44, 45, 46] (fun a4 => [(46, .bool a4)]) (fun a4 wr => (law04_PolyPunctures_J1 p2 p3 x1 a4 = some r) ∧ Kz [] w11 wr) ?_ ?_
  · clear hm; rintro a4 w12 ⟨hm, Kw12⟩
    have z28 := Kw12.size
    unfold law04_PolyPunctures_J1 at hm
    refine sw_cond rfl (fun c1 => ?_) (fun c1 => ?_)
    ·
      replace hm := cnd_t c1 hm
      refine sw_seq ?_
      -- region 5 law.go:67
      refine sw_region [(0, 0)] rfl rfl rfl ?_
      refine sd_vv rfl rfl rfl (vv_assign rfl) ?_
      refine sd_done ?_
      refine sw_ret ?_
      refine then_r ?_
      have X29 : Gr w w12 := (Gr.kz X27 Kw12)
      have hr := Option.some.inj hm
      subst hr
      refine ⟨_, _, rfl, res_1 rfl (rv_tmp rfl), ?_⟩
      exact ⟨rfl, X29⟩
    ·
      replace hm := cnd_f c1 hm
      refine sw_skip ?_
      refine then_n ?_
      refine sw_seq ?_
      -- region 6 law.go:69
      refine sw_region [(0, 0), (1, 0), (2, 0), (3, 0), (4, 0), (5, 0), (6, 0), (7, 0)] rfl rfl rfl ?_
      have B30 := (Bx.kz (Bx.md (Bx.gr (Bx.gr (Bx.md (Bx.gr (Bx.gr Bw5 Gw6) Gw7) Mw8) Gw9) Gw10) Mw11) Kw12)
      refine sd_vv rfl rfl rfl (vv_loadW agg_76 rfl B30 rfl) ?_
      refine sd_vv rfl rfl rfl (vv_move rfl) ?_
      have B31 := (Own.kz (Own.md (Own.gr (Own.gr (Own.md (Own.gr (Own.gr (Own.md B11 Mw5 (tk1 ((pv_lt (A := (fun x => x ≠ b4)) lt8) : z3_r0_1 = 0 ∨ g3_r0_1 ≠ b4))) Gw6) Gw7) Mw8 (tk1 ((pv_lt (A := (fun x => x ≠ b7)) lt8) : z3_r0_1 = 0 ∨ g3_r0_1 ≠ b7))) Gw9) Gw10) Mw11 (tk1 ((pv_lt (A := (fun x => x ≠ b10)) lt8) : z3_r0_1 = 0 ∨ g3_r0_1 ≠ b10))) Kw12)
      have hb := bnd hm; clear hm; obtain ⟨x5, hx5, hm⟩ := hb
      refine sd_ev rfl rfl rfl (ev_call en_44 rfl (poly_Puncture_w x1 p3 _ _ _ _ _ hx5 _ (Own.rd B31))) ?_
      rintro _ w13 ⟨u13_r0_1, z13_r0_1, g13_r0_1, rfl, O13_r0_1, f13_r0_1, Gw13⟩
      have z32 := Gw13.size
      have lt33 := O13_r0_1.lth
      refine sd_vv rfl rfl rfl (vv_move rfl) ?_
      refine sd_vv rfl rfl rfl (vv_extract rfl rfl) ?_
      refine sd_vv rfl rfl rfl (vv_extract rfl rfl) ?_
      have B34 := (Bx.gr (Bx.kz (Bx.md (Bx.gr (Bx.gr Bw8 Gw9) Gw10) Mw11) Kw12) Gw13)
      refine sd_ev rfl rfl rfl (ev_stM (cs' := TPunctured.cs x5.1 u13_r0_1) (vs := TPunctured.cs x5.1 u13_r0_1) (agg_76).siz rfl rfl rfl rfl (TPunctured.cs_ones _ _ (Own.oneB O13_r0_1)) B34 rfl rfl) ?_
      rintro _ w14 ⟨Bw14, Mw14⟩
      have z35 := Mw14.size
      refine sd_vv rfl rfl rfl (vv_assign rfl) ?_
      refine sd_done ?_
      refine sw_seq ?_
      -- region 7 law.go:70
      refine sw_region [(0, 0), (1, 0), (2, 0), (3, 0), (4, 0), (5, 0), (6, 0), (7, 0)] rfl rfl rfl ?_
      have B36 := (Bx.md (Bx.gr (Bx.kz (Bx.md (Bx.gr (Bx.gr (Bx.md (Bx.gr (Bx.gr (Bx.md (Bx.gr (Bx.gr Bw2 Gw3) Gw4) Mw5) Gw6) Gw7) Mw8) Gw9) Gw10) Mw11) Kw12) Gw13) Mw14)
      refine sd_vv rfl rfl rfl (vv_loadW agg_76 rfl B36 rfl) ?_
      refine sd_vv rfl rfl rfl (vv_move rfl) ?_
      have B37 := (Rd.md (Rd.gr (Rd.kz (Rd.md (Rd.gr (Rd.gr (Rd.md (Rd.gr (Rd.gr (Rd.md (Rd.gr (Rd.gr B6 Gw3) Gw4) Mw5 (tk1 ((pv_lt (A := (fun x => x ≠ b4)) lt1) : zp2_1 = 0 ∨ gp2_1 ≠ b4))) Gw6) Gw7) Mw8 (tk1 ((pv_lt (A := (fun x => x ≠ b7)) lt1) : zp2_1 = 0 ∨ gp2_1 ≠ b7))) Gw9) Gw10) Mw11 (tk1 ((pv_lt (A := (fun x => x ≠ b10)) lt1) : zp2_1 = 0 ∨ gp2_1 ≠ b10))) Kw12) Gw13) Mw14 (tk1 ((pv_lt (A := (fun x => x ≠ b7)) lt1) : zp2_1 = 0 ∨ gp2_1 ≠ b7)))
      have hb := bnd hm; clear hm; obtain ⟨x6, hx6, hm⟩ := hb
      refine sd_ev rfl rfl rfl (ev_call en_45 rfl (ref04_Puncture_w p2 p3 _ _ _ _ _ hx6 _ B37)) ?_
      rintro _ w15 ⟨u15_r0_1, z15_r0_1, g15_r0_1, rfl, O15_r0_1, f15_r0_1, Gw15⟩
      have z38 := Gw15.size
      have lt39 := O15_r0_1.lth
      refine sd_vv rfl rfl rfl (vv_move rfl) ?_
      refine sd_vv rfl rfl rfl (vv_extract rfl rfl) ?_
      refine sd_vv rfl rfl rfl (vv_extract rfl rfl) ?_
      have B40 := (Bx.gr (Bx.md (Bx.gr (Bx.kz Bw11 Kw12) Gw13) Mw14) Gw15)
      refine sd_ev rfl rfl rfl (ev_stM (cs' := TPunctured.cs x6.1 u15_r0_1) (vs := TPunctured.cs x6.1 u15_r0_1) (agg_76).siz rfl rfl rfl rfl (TPunctured.cs_ones _ _ (Own.oneB O15_r0_1)) B40 rfl rfl) ?_
      rintro _ w16 ⟨Bw16, Mw16⟩
      have z41 := Mw16.size
      refine sd_vv rfl rfl rfl (vv_assign rfl) ?_
      refine sd_done ?_
      refine sw_seq ?_
      have X42 : Gr w w16 := (Gr.md (Gr.trans (Gr.md (Gr.trans (Gr.kz X27 Kw12) Gw13) Mw14) Gw15) Mw16)
      refine sw_joinD (β := Bool) [11, 13, 59, 60, 61, 62, 63, 64, 65, 66, 67] (fun a7 => [(11, .int .i64 x5.2), (13, .int .i64 x6.2), (67, .bool a7)]) (fun a7 wr => (law04_PolyPunctures_J2 p2 p3 x1 x5 a7 = some r) ∧ Kz [] w16 wr) ?_ ?_
      · clear hm; rintro a7 w17 ⟨hm, Kw17⟩
        have z43 := Kw17.size
        unfold law04_PolyPunctures_J2 at hm
        refine sw_cond rfl (fun c2 => ?_) (fun c2 => ?_)
        ·
          replace hm := cnd_t c2 hm
          refine sw_seq ?_
          -- region 9 law.go:72
          refine sw_region [(0, 0)] rfl rfl rfl ?_
          refine sd_vv rfl rfl rfl (vv_assign rfl) ?_
          refine sd_done ?_
          refine sw_ret ?_
          refine then_r ?_
          have X44 : Gr w w17 := (Gr.kz X42 Kw17)
          have hr := Option.some.inj hm
          subst hr
          refine ⟨_, _, rfl, res_1 rfl (rv_tmp rfl), ?_⟩
          exact ⟨rfl, X44⟩
        ·
          replace hm := cnd_f c2 hm
          refine sw_skip ?_
          refine then_n ?_
          refine sw_seq ?_
          refine sw_seq ?_
          -- region 10 law.go:74
          refine sw_region [(0, 0)] rfl rfl rfl ?_
          refine sd_vv rfl rfl rfl (vv_assign rfl) ?_
          refine sd_done ?_
          refine sw_block ?_
          have X45 : Gr w w17 := (Gr.kz X42 Kw17)
          have B46 := (Rd.kz (Rd.md (Rd.gr B37 Gw15) Mw16 (tk1 ((pv_lt (A := (fun x => x ≠ b10)) lt1) : zp2_1 = 0 ∨ gp2_1 ≠ b10))) Kw17)
          have B47 := (Own.kz (Own.md (Own.gr (Own.md (Own.gr B31 Gw13) Mw14 (tk1 ((pv_lt (A := (fun x => x ≠ b7)) lt8) : z3_r0_1 = 0 ∨ g3_r0_1 ≠ b7))) Gw15) Mw16 (tk1 ((pv_lt (A := (fun x => x ≠ b10)) lt8) : z3_r0_1 = 0 ∨ g3_r0_1 ≠ b10))) Kw17)
          have B48 := (Own.kz (Own.md (Own.gr (Own.md (Own.gr (Own.kz (Own.md (Own.gr (Own.gr (Own.md B18 Mw8 (tk1 ((pv_lt (A := (fun x => x ≠ b7)) lt15) : z6_r0_1 = 0 ∨ g6_r0_1 ≠ b7))) Gw9) Gw10) Mw11 (tk1 ((pv_lt (A := (fun x => x ≠ b10)) lt15) : z6_r0_1 = 0 ∨ g6_r0_1 ≠ b10))) Kw12) Gw13) Mw14 (tk1 ((pv_lt (A := (fun x => x ≠ b7)) lt15) : z6_r0_1 = 0 ∨ g6_r0_1 ≠ b7))) Gw15) Mw16 (tk1 ((pv_lt (A := (fun x => x ≠ b10)) lt15) : z6_r0_1 = 0 ∨ g6_r0_1 ≠ b10))) Kw17)
          have B49 := (Bx.kz (Bx.md (Bx.gr Bw14 Gw15) Mw16) Kw17)
          have B50 := (Own.kz (Own.md (Own.gr (Own.md (Own.gr (Own.kz (Own.md B25 Mw11 (tk1 ((pv_lt (A := (fun x => x ≠ b10)) lt22) : z9_r0_1 = 0 ∨ g9_r0_1 ≠ b10))) Kw12) Gw13) Mw14 (tk1 ((pv_0 (A := (fun x => x ≠ b7)) f9_r0_1) : z9_r0_1 = 0 ∨ g9_r0_1 ≠ b7))) Gw15) Mw16 (tk1 ((pv_lt (A := (fun x => x ≠ b10)) lt22) : z9_r0_1 = 0 ∨ g9_r0_1 ≠ b10))) Kw17)
          have B51 := (Own.kz (Own.md (Own.gr (Own.md O13_r0_1 Mw14 (tk1 ((pv_0 (A := (fun x => x ≠ b7)) f13_r0_1) : z13_r0_1 = 0 ∨ g13_r0_1 ≠ b7))) Gw15) Mw16 (tk1 ((pv_0 (A := (fun x => x ≠ b10)) f13_r0_1) : z13_r0_1 = 0 ∨ g13_r0_1 ≠ b10))) Kw17)
          have B52 := (Own.kz (Own.md O15_r0_1 Mw16 (tk1 ((pv_0 (A := (fun x => x ≠ b10)) f15_r0_1) : z15_r0_1 = 0 ∨ g15_r0_1 ≠ b10))) Kw17)
          refine sw_loopD (α := Nat × Int × List TLabel × Value × Nat × Nat) [14, 68, 69, 70, 71, 72, 73, 74, 75, 76, 77, 78, 79, 80, 81, 82, 83] (fun ⟨n3, a11, a12, vy13, zy13, gy13⟩ => [(14, .int .i64 a11)]) (fun ⟨n3, a11, a12, vy13, zy13, gy13⟩ wr => (fixN (law04_PolyPunctures_L3 p2 p3 x1) n3 (a11, a12) = some r) ∧ Own wr zy13 gy13 88 18 vy13 (a12.map TLabel.cs) ∧ Hdn (zy13 = 0 ∨ (gy13 = g13_r0_1 ∧ z13_r0_1 ≠ 0) ∨ w17.heap.size ≤ gy13) ∧ Bx wr b7 76 (TPunctured.cs (TPunctured.mk x5.1.Depth a12) vy13) ∧ Kz [(1, b7), (z13_r0_1, g13_r0_1)] w17 wr) (fun ⟨n3, a11, a12, vy13, zy13, gy13⟩ => n3) ⟨FUEL, 0, x5.1.Labels, u13_r0_1, z13_r0_1, g13_r0_1⟩ ?_ ?_ ?_
          · repeat' first | exact trivial | refine ⟨rfl, ?_⟩
          · exact ⟨hm, B51, ⟨tk0⟩, B49, Kz.refl _ _⟩
          · clear hm; rintro ⟨n3, a11, a12, vy13, zy13, gy13⟩ w18 ⟨hm, Fw18_0, Fw18_1, Fw18_2, Kw18⟩
            have z53 := Kw18.size
            have lt54 := Fw18_0.lth
            have lt55 := Fw18_2.lt
            have hb := fix_succ hm; clear hm; obtain ⟨n3, rfl, hm⟩ := hb
            generalize hrec3 : fixN (law04_PolyPunctures_L3 p2 p3 x1) n3 = rec3 at hm
            unfold law04_PolyPunctures_L3 at hm
            try dsimp only at hm
            refine sw_seq ?_
            refine sw_seq ?_
            -- region 11 law.go:74
            refine sw_region [(0, 0), (1, 0), (2, 0), (3, 0), (4, 0)] rfl rfl rfl ?_
            refine sd_vv rfl rfl rfl (vv_move rfl) ?_
            refine sd_vv rfl rfl rfl (vv_fieldAddr fa_76_1 rfl) ?_
            refine sd_vv rfl rfl rfl (vv_load1 (v := vy13) one_29 rfl Fw18_2 rfl) ?_
            refine sd_vv rfl rfl rfl (vv_lenT (l := a12) (c := TLabel.cs) Try.underlying29 rfl (Own.rd Fw18_0)) ?_
            refine sd_vv rfl rfl rfl (vv_lss (a := a11) (b := (a12.length : Int)) rfl rfl) ?_
            refine sd_done ?_
            refine sw_cond rfl (fun c3 => ?_) (fun c3 => ?_)
            ·
              replace hm := ite_t (of_decide_eq_true c3) hm
              refine sw_skip ?_
              refine then_n ?_
              refine sw_seq ?_
              refine sw_block ?_
              -- region 13 law.go:75
              refine sw_region [(0, 0), (1, 0), (2, 0), (3, 0), (4, 0), (5, 0), (6, 0), (7, 0), (8, 0), (9, 0)] rfl rfl rfl ?_
              refine sd_vv rfl rfl rfl (vv_fieldAddr fa_76_1 rfl) ?_
              refine sd_vv rfl rfl rfl (vv_load1 (v := vy13) one_29 rfl Fw18_2 rfl) ?_
              refine sd_vv rfl rfl rfl (vv_move rfl) ?_
              have hb := bnd hm; clear hm; obtain ⟨y14, hy14, hm⟩ := hb
              refine sd_vv rfl rfl rfl (vv_ixT (i := a11) Try.underlying29 (agg_88).siz rfl (Own.rd Fw18_0) rfl hy14) ?_
              refine sd_vv rfl rfl rfl (vv_fieldAddr fa_88_0 rfl) ?_
              refine sd_vv rfl rfl rfl (vv_el1T (q := 0) (u := .int .i64 y14.Node) one_3 rfl (Own.rd Fw18_0) hy14 (by first | rfl | omega) rfl) ?_
              refine sd_vv rfl rfl rfl (vv_add (k := .i64) (a := y14.Node) (b := 1) rfl rfl) ?_
              have hb := bnd hm; clear hm; obtain ⟨y15, hy15, hm⟩ := hb
              refine sd_vv rfl rfl rfl (vv_ixT (i := a11) Try.underlying29 (agg_88).siz rfl (Own.rd Fw18_0) rfl hy15) ?_
              refine sd_vv rfl rfl rfl (vv_fieldAddr fa_88_0 rfl) ?_
              have zo56 := Own.z1 Fw18_0 hy15
              refine sd_ev rfl rfl rfl (ev_stEl (i := a11) (q := 0) (a' := (TLabel.mk (w64 (y14.Node + 1)) y15.Minus y15.Key)) (vs := [.int .i64 (w64 (y14.Node + 1))]) (c := TLabel.cs) (one_3).siz rfl rfl rfl rfl rfl Fw18_0 hy15 (by first | rfl | omega) rfl rfl ⟨rfl, rfl⟩) ?_
              rintro _ w19 ⟨Ow19, Mw19⟩
              have z57 := Mw19.size
              refine sd_nil ?_
              refine block_n ?_
              refine then_n ?_
              -- region 12 law.go:74
              refine sw_region [(0, 0), (1, 0), (2, 0)] rfl rfl rfl ?_
              refine sd_vv rfl rfl rfl (vv_move rfl) ?_
              refine sd_vv rfl rfl rfl (vv_add (k := .i64) (a := a11) (b := 1) rfl rfl) ?_
              refine sd_vv rfl rfl rfl (vv_assign rfl) ?_
              refine sd_nil ?_
              have K_58 : Kz [(1, b7), (z13_r0_1, g13_r0_1)] w17 w19 := (Kz.md Kw18 Mw19 (tk1 ((pv_1 (A := (fun x => (x = g13_r0_1 ∧ z13_r0_1 ≠ 0) ∨ w17.heap.size ≤ x)) Fw18_1 tk0) : zy13 = 0 ∨ (gy13 = g13_r0_1 ∧ z13_r0_1 ≠ 0) ∨ w17.heap.size ≤ gy13)))
              have B59 := (Bx.md Fw18_2 Mw19 (tk1 ((pv_1 (A := (fun x => x ≠ b7)) Fw18_1 (pv_0 (A := (fun x => x ≠ b7)) f13_r0_1)) : zy13 = 0 ∨ gy13 ≠ b7)))
              subst hrec3
              refine ⟨rfl, ⟨n3, w64 (a11 + 1), a12.set a11.toNat (TLabel.mk (w64 (y14.Node + 1)) y15.Minus y15.Key), vy13, zy13, gy13⟩, ?_, ⟨hm, Ow19, ⟨(pv_1 (A := (fun x => (x = g13_r0_1 ∧ z13_r0_1 ≠ 0) ∨ w17.heap.size ≤ x)) Fw18_1 tk0)⟩, B59, K_58⟩, Nat.lt_succ_self _⟩
              repeat' first | exact trivial | refine ⟨rfl, ?_⟩
            ·
              replace hm := ite_f (of_decide_eq_false c3) hm
              refine sw_exit ?_
              refine then_x ?_
              refine then_x ?_
              refine block_x ?_
              refine then_n ?_
              refine sw_seq ?_
              -- region 14 law.go:77
              refine sw_region [(0, 0), (1, 0), (2, 0), (3, 0), (4, 0), (5, 0), (6, 0), (7, 0), (8, 0)] rfl rfl rfl ?_
              have B60 := (Bx.kz (Bx.kz (Bx.md (Bx.gr (Bx.md (Bx.gr B30 Gw13) Mw14) Gw15) Mw16) Kw17) Kw18 (tk1 ((pv_0 (A := (fun x => x ≠ b4)) f13_r0_1) : z13_r0_1 = 0 ∨ g13_r0_1 ≠ b4)))
              refine sd_vv rfl rfl rfl (vv_loadW agg_76 rfl B60 rfl) ?_
              refine sd_vv rfl rfl rfl (vv_move rfl) ?_
              have B61 := (Own.kz B47 Kw18 (tk2 ((pv_sw (pv_0 (A := (fun x => z3_r0_1 = 0 ∨ x ≠ g3_r0_1)) f13_r0_1 (fun x hx => (tk1 lt8.o)))) : z3_r0_1 = 0 ∨ z13_r0_1 = 0 ∨ g3_r0_1 ≠ g13_r0_1) ((pv_lt (A := (fun x => x ≠ b7)) lt8) : z3_r0_1 = 0 ∨ g3_r0_1 ≠ b7)))
              have hb := bnd hm; clear hm; obtain ⟨x16, hx16, hm⟩ := hb
              refine sd_ev rfl rfl rfl (ev_call en_46 rfl (poly_Evaluate_w x1 p3 _ _ _ _ _ hx16 _ (Own.rd B61))) ?_
              rintro _ w20 ⟨rfl, Gw20⟩
              have z62 := Gw20.size
              refine sd_vv rfl rfl rfl (vv_move rfl) ?_
              refine sd_vv rfl rfl rfl (vv_extract rfl rfl) ?_
              refine sd_vv rfl rfl rfl (vv_extract rfl rfl) ?_
              refine sd_ev rfl rfl rfl (ev_alloc (cs := kb k0) zv_23 rfl) ?_
              rintro _ w21 ⟨b21, rfl, hbw21, Bw21, Gw21⟩
              have z63 := Gw21.size
              have lt64 := Bw21.lt
              refine sd_ev rfl rfl rfl (ev_stM (cs' := kb x16.1) (vs := kb x16.1) (agg_23).siz rfl rfl rfl rfl rfl Bw21 rfl rfl) ?_
              rintro _ w22 ⟨Bw22, Mw22⟩
              have z65 := Mw22.size
              refine sd_vv rfl rfl rfl (vv_assign rfl) ?_
              refine sd_done ?_
              refine sw_seq ?_
              -- region 15 law.go:78
              refine sw_region [(0, 0), (1, 0), (2, 0), (3, 0), (4, 0), (5, 0), (6, 0), (7, 0), (8, 0)] rfl rfl rfl ?_
              have B66 := (Bx.md (Bx.gr (Bx.gr (Bx.kz (Bx.kz (Bx.md (Bx.gr B36 Gw15) Mw16) Kw17) Kw18 (tk1 ((pv_0 (A := (fun x => x ≠ b2)) f13_r0_1) : z13_r0_1 = 0 ∨ g13_r0_1 ≠ b2))) Gw20) Gw21) Mw22)
              refine sd_vv rfl rfl rfl (vv_loadW agg_76 rfl B66 rfl) ?_
              refine sd_vv rfl rfl rfl (vv_move rfl) ?_
              have B67 := (Rd.md (Rd.gr (Rd.gr (Rd.kz B46 Kw18 (tk2 ((pv_sw (pv_0 (A := (fun x => zp2_1 = 0 ∨ x ≠ gp2_1)) f13_r0_1 (fun x hx => (tk1 lt1.o)))) : zp2_1 = 0 ∨ z13_r0_1 = 0 ∨ gp2_1 ≠ g13_r0_1) ((pv_lt (A := (fun x => x ≠ b7)) lt1) : zp2_1 = 0 ∨ gp2_1 ≠ b7))) Gw20) Gw21) Mw22 (tk1 ((pv_lt (A := (fun x => x ≠ b21)) lt1) : zp2_1 = 0 ∨ gp2_1 ≠ b21)))
              have hb := bnd hm; clear hm; obtain ⟨x17, hx17, hm⟩ := hb
              refine sd_ev rfl rfl rfl (ev_call en_47 rfl (ref04_Evaluate_w p2 p3 _ _ _ _ _ hx17 _ B67)) ?_
              rintro _ w23 ⟨rfl, Gw23⟩
              have z68 := Gw23.size
              refine sd_vv rfl rfl rfl (vv_move rfl) ?_
              refine sd_vv rfl rfl rfl (vv_extract rfl rfl) ?_
              refine sd_vv rfl rfl rfl (vv_extract rfl rfl) ?_
              refine sd_ev rfl rfl rfl (ev_alloc (cs := kb k0) zv_23 rfl) ?_
              rintro _ w24 ⟨b24, rfl, hbw24, Bw24, Gw24⟩
              have z69 := Gw24.size
              have lt70 := Bw24.lt
              refine sd_ev rfl rfl rfl (ev_stM (cs' := kb x17.1) (vs := kb x17.1) (agg_23).siz rfl rfl rfl rfl rfl Bw24 rfl rfl) ?_
              rintro _ w25 ⟨Bw25, Mw25⟩
              have z71 := Mw25.size
              refine sd_vv rfl rfl rfl (vv_assign rfl) ?_
              refine sd_done ?_
              refine sw_seq ?_
              -- region 16 law.go:79
              refine sw_region [(0, 0), (1, 0), (2, 0), (3, 0), (4, 0), (5, 0), (6, 0), (7, 0), (8, 0), (9, 0), (10, 0), (11, 0), (12, 0), (13, 0)] rfl rfl rfl ?_
              have B72 := (Bx.md (Bx.gr (Bx.gr Bw22 Gw23) Gw24) Mw25)
              refine sd_vv rfl rfl rfl (vv_loadW agg_23 rfl B72 rfl) ?_
              refine sd_vv rfl rfl rfl (vv_loadW agg_23 rfl Bw25 rfl) ?_
              refine sd_vv rfl rfl rfl (vv_eqlS (cf := kb) (a := x16.1) (b := x17.1) eqt_23 rfl rfl rfl rfl (fun h => kb_inj h)) ?_
              refine sd_split rfl rfl rfl (vv_move rfl) (fun c4 => ?_) (fun c4 => ?_)
              ·
                replace hm := ite_t (of_decide_eq_true c4) hm
                refine sd_vv rfl rfl rfl (vv_move rfl) ?_
                refine sd_vv rfl rfl rfl (vv_move rfl) ?_
                refine sd_vv rfl rfl rfl (vv_eql (a := x16.2) (b := x17.2) rfl rfl) ?_
                refine sd_vv rfl rfl rfl (vv_pickT rfl rfl) ?_
                refine sd_split rfl rfl rfl (vv_move rfl) (fun c5 => ?_) (fun c5 => ?_)
                ·
                  replace hm := ite_t (of_decide_eq_true c5) hm
                  have B73 := (Bx.md (Bx.gr (Bx.gr (Bx.md (Bx.gr (Bx.gr B60 Gw20) Gw21) Mw22) Gw23) Gw24) Mw25)
                  refine sd_vv rfl rfl rfl (vv_loadW agg_76 rfl B73 rfl) ?_
                  have B74 := (Bx.md (Bx.gr (Bx.gr B66 Gw23) Gw24) Mw25)
                  refine sd_vv rfl rfl rfl (vv_loadW agg_76 rfl B74 rfl) ?_
                  have B75 := (Own.md (Own.gr (Own.gr (Own.md (Own.gr (Own.gr B61 Gw20) Gw21) Mw22 (tk1 ((pv_lt (A := (fun x => x ≠ b21)) lt8) : z3_r0_1 = 0 ∨ g3_r0_1 ≠ b21))) Gw23) Gw24) Mw25 (tk1 ((pv_lt (A := (fun x => x ≠ b24)) lt8) : z3_r0_1 = 0 ∨ g3_r0_1 ≠ b24)))
                  have B76 := (Rd.md (Rd.gr (Rd.gr B67 Gw23) Gw24) Mw25 (tk1 ((pv_lt (A := (fun x => x ≠ b24)) lt1) : zp2_1 = 0 ∨ gp2_1 ≠ b24)))
                  have hb := bnd hm; clear hm; obtain ⟨x18, hx18, hm⟩ := hb
                  refine sd_ev rfl rfl rfl (ev_call en_41 rfl (ref04_SamePunctured_w x1 p2 _ _ _ _ _ _ _ _ _ hx18 _ (Own.rd B75) B76)) ?_
                  rintro _ w26 ⟨rfl, Gw26⟩
                  have z77 := Gw26.size
                  refine sd_vv rfl rfl rfl (vv_pickT rfl rfl) ?_
                  refine sd_vv rfl rfl rfl (vv_assign rfl) ?_
                  refine sd_done ?_
                  refine sw_ret ?_
                  have X78 : Gr w w26 := (Gr.trans (Gr.md (Gr.trans (Gr.trans (Gr.md (Gr.trans (Gr.trans (Gr.kz X45 Kw18 (tk1 ((pv_0 (A := (fun x => w.heap.size ≤ x)) f13_r0_1) : z13_r0_1 = 0 ∨ w.heap.size ≤ g13_r0_1))) Gw20) Gw21) Mw22) Gw23) Gw24) Mw25) Gw26)
                  have hr := Option.some.inj hm
                  subst hr
                  refine ⟨_, _, rfl, res_1 rfl (rv_tmp rfl), ?_⟩
                  exact ⟨rfl, X78⟩
                ·
                  replace hm := ite_f (of_decide_eq_false c5) hm
                  refine sd_skip rfl rfl rfl ?_
                  refine sd_skip rfl rfl rfl ?_
                  refine sd_skip rfl rfl rfl ?_
                  refine sd_vv rfl rfl rfl (vv_pickF rfl rfl) ?_
                  refine sd_vv rfl rfl rfl (vv_assign rfl) ?_
                  refine sd_done ?_
                  refine sw_ret ?_
                  have X79 : Gr w w25 := (Gr.md (Gr.trans (Gr.trans (Gr.md (Gr.trans (Gr.trans (Gr.kz X45 Kw18 (tk1 ((pv_0 (A := (fun x => w.heap.size ≤ x)) f13_r0_1) : z13_r0_1 = 0 ∨ w.heap.size ≤ g13_r0_1))) Gw20) Gw21) Mw22) Gw23) Gw24) Mw25)
                  have hr := Option.some.inj hm
                  subst hr
                  refine ⟨_, _, rfl, res_1 rfl (rv_tmp rfl), ?_⟩
                  exact ⟨rfl, X79⟩
              ·
                replace hm := ite_f (of_decide_eq_false c4) hm
                refine sd_skip rfl rfl rfl ?_
                refine sd_skip rfl rfl rfl ?_
                refine sd_skip rfl rfl rfl ?_
                refine sd_vv rfl rfl rfl (vv_pickF rfl rfl) ?_
                refine sd_vv rfl rfl rfl (vv_move rfl) ?_
                refine sd_skip rfl rfl rfl ?_
                refine sd_skip rfl rfl rfl ?_
                refine sd_skip rfl rfl rfl ?_
                refine sd_vv rfl rfl rfl (vv_pickF rfl rfl) ?_
                refine sd_vv rfl rfl rfl (vv_assign rfl) ?_
                refine sd_done ?_
                refine sw_ret ?_
                have X80 : Gr w w25 := (Gr.md (Gr.trans (Gr.trans (Gr.md (Gr.trans (Gr.trans (Gr.kz X45 Kw18 (tk1 ((pv_0 (A := (fun x => w.heap.size ≤ x)) f13_r0_1) : z13_r0_1 = 0 ∨ w.heap.size ≤ g13_r0_1))) Gw20) Gw21) Mw22) Gw23) Gw24) Mw25)
                have hr := Option.some.inj hm
                subst hr
                refine ⟨_, _, rfl, res_1 rfl (rv_tmp rfl), ?_⟩
                exact ⟨rfl, X80⟩
      ·
        -- region 8 law.go:71
        refine sw_region [(0, 0), (1, 0), (2, 0), (3, 0), (4, 0), (5, 0), (6, 0), (7, 0), (8, 0)] rfl rfl rfl ?_
        have B81 := (Bx.md (Bx.gr Bw14 Gw15) Mw16)
        refine sd_vv rfl rfl rfl (vv_loadW agg_76 rfl B81 rfl) ?_
        refine sd_vv rfl rfl rfl (vv_loadW agg_76 rfl Bw16 rfl) ?_
        have B82 := (Own.md (Own.gr (Own.md O13_r0_1 Mw14 (tk1 ((pv_0 (A := (fun x => x ≠ b7)) f13_r0_1) : z13_r0_1 = 0 ∨ g13_r0_1 ≠ b7))) Gw15) Mw16 (tk1 ((pv_0 (A := (fun x => x ≠ b10)) f13_r0_1) : z13_r0_1 = 0 ∨ g13_r0_1 ≠ b10)))
        have B83 := (Own.md O15_r0_1 Mw16 (tk1 ((pv_0 (A := (fun x => x ≠ b10)) f15_r0_1) : z15_r0_1 = 0 ∨ g15_r0_1 ≠ b10)))
        have hb := bnd hm; clear hm; obtain ⟨x19, hx19, hm⟩ := hb
        refine sd_ev rfl rfl rfl (ev_call en_41 rfl (ref04_SamePunctured_w x5.1 x6.1 _ _ _ _ _ _ _ _ _ hx19 _ (Own.rd B82) (Own.rd B83))) ?_
        rintro _ w27 ⟨rfl, Gw27⟩
        have z84 := Gw27.size
        refine sd_vv rfl rfl rfl (vv_not rfl) ?_
        refine sd_split rfl rfl rfl (vv_move rfl) (fun c6 => ?_) (fun c6 => ?_)
        ·
          replace hm := cnd_t c6 hm
          refine sd_skip rfl rfl rfl ?_
          refine sd_skip rfl rfl rfl ?_
          refine sd_skip rfl rfl rfl ?_
          refine sd_vv rfl rfl rfl (vv_pickT rfl rfl) ?_
          refine sd_nil ?_
          have K_85 : Kz [] w16 w27 := (Kz.gr (Kz.refl _ _) Gw27)
          refine ⟨rfl, true, ?_, hm, K_85⟩
          repeat' first | exact trivial | refine ⟨rfl, ?_⟩
        ·
          replace hm := cnd_f c6 hm
          refine sd_vv rfl rfl rfl (vv_move rfl) ?_
          refine sd_vv rfl rfl rfl (vv_move rfl) ?_
          refine sd_vv rfl rfl rfl (vv_neq (a := x5.2) (b := x6.2) rfl rfl) ?_
          refine sd_vv rfl rfl rfl (vv_pickF rfl rfl) ?_
          refine sd_nil ?_
          have K_86 : Kz [] w16 w27 := (Kz.gr (Kz.refl _ _) Gw27)
          refine ⟨rfl, (decide (x5.2 ≠ x6.2)), ?_, hm, K_86⟩
          repeat' first | exact trivial | refine ⟨rfl, ?_⟩
  ·
    -- region 4 law.go:66 DRAWS
    refine sw_drawN [([])] [] (.leaf [(0, 10), (1, 10), (2, 0), (3, 10), (4, 10), (5, 10), (6, 10), (7, 10), (8, 10), (9, 10), (10, 10), (12, 10), (11, 0), (13, 0), (14, 10), (15, 10)]) (by kernel_rfl) (by kernel_rfl) rfl (by kernel_rfl) ?_
    intro w28 Gw28 zw28
    refine sdz_leaf ?_
    have B87 := (Bx.gr (Bx.md (Bx.gr (Bx.gr Bw8 Gw9) Gw10) Mw11) Gw28)
    refine dd_hn 0 rfl rfl rfl rfl (Kp.refl ([]) w28) (fun w hS => vv_loadW agg_76 rfl (Bx.kp B87 hS) rfl) ?_
    have B88 := (Bx.gr Bw11 Gw28)
    refine dd_hn 0 rfl rfl rfl rfl (Kp.refl ([]) w28) (fun w hS => vv_loadW agg_76 rfl (Bx.kp B88 hS) rfl) ?_
    have B89 := (Own.gr (Own.md (Own.gr (Own.gr (Own.md B18 Mw8 (tk1 ((pv_lt (A := (fun x => x ≠ b7)) lt15) : z6_r0_1 = 0 ∨ g6_r0_1 ≠ b7))) Gw9) Gw10) Mw11 (tk1 ((pv_lt (A := (fun x => x ≠ b10)) lt15) : z6_r0_1 = 0 ∨ g6_r0_1 ≠ b10))) Gw28)
    have B90 := (Own.gr (Own.md B25 Mw11 (tk1 ((pv_lt (A := (fun x => x ≠ b10)) lt22) : z9_r0_1 = 0 ∨ g9_r0_1 ≠ b10))) Gw28)
    have hb := bnd hm; clear hm; obtain ⟨x20, hx20, hm⟩ := hb
    refine dd_z [] rfl rfl rfl (ev_call en_41 rfl (ref04_SamePunctured_w x2.1 x3.1 _ _ _ _ _ _ _ _ _ hx20 _ (Own.rd B89) (Own.rd B90))) ⟨fun _ => tk0, trivial⟩ ?_
    rintro _ w29 ⟨rfl, Gw29⟩
    have z91 := Gw29.size
    refine ⟨Kz.ofGr Gw29, ?_⟩
    have S92 := (Kp.gr (Kp.refl ([]) w28) Gw29)
    refine dd_hn 0 rfl rfl rfl rfl S92 (fun w hS => vv_not rfl) ?_
    refine dd_pn 0 rfl rfl rfl rfl S92 (fun w hS => vv_move rfl) (fun c7 => ?_) (fun c7 => ?_)
    ·
      replace hm := cnd_t c7 hm
      refine dd_sn 0 rfl rfl rfl rfl S92 ?_
      refine dd_sn 0 rfl rfl rfl rfl S92 ?_
      refine dd_sn 0 rfl rfl rfl rfl S92 ?_
      refine dd_hn 0 rfl rfl rfl rfl S92 (fun w hS => vv_pickT rfl rfl) ?_
      refine dd_hn 0 rfl rfl rfl rfl S92 (fun w hS => vv_move rfl) ?_
      refine dd_sn 0 rfl rfl rfl rfl S92 ?_
      refine dd_sn 0 rfl rfl rfl rfl S92 ?_
      refine dd_sz rfl rfl rfl ?_
      refine dd_sz rfl rfl rfl ?_
      refine dd_sn 0 rfl rfl rfl rfl S92 ?_
      refine dd_hn 0 rfl rfl rfl rfl S92 (fun w hS => vv_pickT rfl rfl) ?_
      refine sd_nil ?_
      have K_93 : Kz [] w11 w29 := (Kz.gr (Kz.gr (Kz.refl _ _) Gw28) Gw29)
      refine ⟨rfl, true, ?_, hm, K_93⟩
      repeat' first | exact trivial | refine ⟨rfl, ?_⟩
    ·
      replace hm := cnd_f c7 hm
      refine dd_hn 0 rfl rfl rfl rfl S92 (fun w hS => vv_move rfl) ?_
      refine dd_hn 0 rfl rfl rfl rfl S92 (fun w hS => vv_move rfl) ?_
      refine dd_hn 0 rfl rfl rfl rfl S92 (fun w hS => vv_neq (a := x2.2) (b := x3.2) rfl rfl) ?_
      refine dd_hn 0 rfl rfl rfl rfl S92 (fun w hS => vv_pickF rfl rfl) ?_
      refine dd_pn 0 rfl rfl rfl rfl S92 (fun w hS => vv_move rfl) (fun c8 => ?_) (fun c8 => ?_)
      ·
        replace hm := ite_t (of_decide_eq_true c8) hm
        refine dd_sn 0 rfl rfl rfl rfl S92 ?_
        refine dd_sn 0 rfl rfl rfl rfl S92 ?_
        refine dd_sz rfl rfl rfl ?_
        refine dd_sz rfl rfl rfl ?_
        refine dd_sn 0 rfl rfl rfl rfl S92 ?_
        refine dd_hn 0 rfl rfl rfl rfl S92 (fun w hS => vv_pickT rfl rfl) ?_
        refine sd_nil ?_
        have K_94 : Kz [] w11 w29 := (Kz.gr (Kz.gr (Kz.refl _ _) Gw28) Gw29)
        refine ⟨rfl, true, ?_, hm, K_94⟩
        repeat' first | exact trivial | refine ⟨rfl, ?_⟩
      ·
        replace hm := ite_f (of_decide_eq_false c8) hm
        have B95 := (Bx.gr (Bx.md (Bx.gr (Bx.gr (Bx.md (Bx.gr (Bx.gr Bw5 Gw6) Gw7) Mw8) Gw9) Gw10) Mw11) Gw28)
        refine dd_hn 0 rfl rfl rfl rfl S92 (fun w hS => vv_loadW agg_76 rfl (Bx.kp B95 hS) rfl) ?_
        have B96 := (Bx.gr (Bx.md (Bx.gr (Bx.gr (Bx.md (Bx.gr (Bx.gr (Bx.md (Bx.gr (Bx.gr Bw2 Gw3) Gw4) Mw5) Gw6) Gw7) Mw8) Gw9) Gw10) Mw11) Gw28)
        refine dd_hn 0 rfl rfl rfl rfl S92 (fun w hS => vv_loadW agg_76 rfl (Bx.kp B96 hS) rfl) ?_
        have B97 := (Own.gr (Own.gr (Own.md (Own.gr (Own.gr (Own.md (Own.gr (Own.gr (Own.md B11 Mw5 (tk1 ((pv_lt (A := (fun x => x ≠ b4)) lt8) : z3_r0_1 = 0 ∨ g3_r0_1 ≠ b4))) Gw6) Gw7) Mw8 (tk1 ((pv_lt (A := (fun x => x ≠ b7)) lt8) : z3_r0_1 = 0 ∨ g3_r0_1 ≠ b7))) Gw9) Gw10) Mw11 (tk1 ((pv_lt (A := (fun x => x ≠ b10)) lt8) : z3_r0_1 = 0 ∨ g3_r0_1 ≠ b10))) Gw28) Gw29)
        have hb := bnd hm; clear hm; obtain ⟨x21, hx21, hm⟩ := hb
        refine dd_z [] rfl rfl rfl (ev_call en_42 rfl (poly_CheckPunctured_w x1 _ _ _ _ _ hx21 _ (Own.rd B97))) ⟨fun _ => tk0, trivial⟩ ?_
        rintro _ w30 ⟨rfl, Gw30⟩
        have z98 := Gw30.size
        refine ⟨Kz.ofGr Gw30, ?_⟩
        have B99 := (Rd.gr (Rd.gr (Rd.gr (Rd.md (Rd.gr (Rd.gr (Rd.md (Rd.gr (Rd.gr (Rd.md (Rd.gr (Rd.gr B6 Gw3) Gw4) Mw5 (tk1 ((pv_lt (A := (fun x => x ≠ b4)) lt1) : zp2_1 = 0 ∨ gp2_1 ≠ b4))) Gw6) Gw7) Mw8 (tk1 ((pv_lt (A := (fun x => x ≠ b7)) lt1) : zp2_1 = 0 ∨ gp2_1 ≠ b7))) Gw9) Gw10) Mw11 (tk1 ((pv_lt (A := (fun x => x ≠ b10)) lt1) : zp2_1 = 0 ∨ gp2_1 ≠ b10))) Gw28) Gw29) Gw30)
        have hb := bnd hm; clear hm; obtain ⟨x22, hx22, hm⟩ := hb
        refine dd_z [] rfl rfl rfl (ev_call en_43 rfl (ref04_CheckPunctured_w p2 _ _ _ _ _ hx22 _ B99)) ⟨fun _ => tk0, trivial⟩ ?_
        rintro _ w31 ⟨rfl, Gw31⟩
        have z100 := Gw31.size
        refine ⟨Kz.ofGr Gw31, ?_⟩
        have S101 := (Kp.gr (Kp.gr S92 Gw30) Gw31)
        refine dd_hn 0 rfl rfl rfl rfl S101 (fun w hS => vv_neq (a := x21) (b := x22) rfl rfl) ?_
        refine dd_hn 0 rfl rfl rfl rfl S101 (fun w hS => vv_pickF rfl rfl) ?_
        refine sd_nil ?_
        have K_102 : Kz [] w11 w31 := (Kz.gr (Kz.gr (Kz.gr (Kz.gr (Kz.refl _ _) Gw28) Gw29) Gw30) Gw31)
        refine ⟨rfl, (decide (x21 ≠ x22)), ?_, hm, K_102⟩
        repeat' first | exact trivial | refine ⟨rfl, ?_⟩
end Go.Proofs.Ytkdghilkigojgaa.Mx
