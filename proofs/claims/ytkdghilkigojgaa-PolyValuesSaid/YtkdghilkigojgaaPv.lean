/- Walks that follow mirrors: Pv. Printed by mx.py. -/
import Derived.Test.YtkdghilkigojgaaPd
import Derived.Test.YtkdghilkigojgaaPvM
set_option linter.unusedVariables false
set_option linter.unusedSimpArgs false
set_option maxRecDepth 100000
namespace Go.Proofs.Ytkdghilkigojgaa.Mx
open Go Go.RowKit Go.Sx
theorem en_29 : En Try.prog 29 := fun _ _ => by kernel_rfl
theorem en_30 : En Try.prog 30 := fun _ _ => by kernel_rfl
theorem en_31 : En Try.prog 31 := fun _ _ => by kernel_rfl
theorem en_32 : En Try.prog 32 := fun _ _ => by kernel_rfl
theorem en_33 : En Try.prog 33 := fun _ _ => by kernel_rfl
theorem bsl_60_0 : BSl Try.prog 60 0 24 1 [] := bsl_nil Try.underlying60 (one_24).siz
theorem en_34 : En Try.prog 34 := fun _ _ => by kernel_rfl
theorem en_35 : En Try.prog 35 := fun _ _ => by kernel_rfl
theorem bsl_43_0 : BSl Try.prog 43 0 31 2 [] := bsl_nil Try.underlying43 (agg_31).siz
theorem apt_43 : ApT Try.prog 43 31 2 16 := apt_mk Try.underlying43 rfl (by kernel_rfl)
theorem en_36 : En Try.prog 36 := fun _ _ => by kernel_rfl
theorem en_37 : En Try.prog 37 := fun _ _ => by kernel_rfl

set_option maxHeartbeats 2000000 in
theorem law04_PolyValues_w (p0 : W2) (p1 : TScheme) (p2 : List (BitVec 64)) (p3 : BitVec 64) (p4 : List TPoint) (vp2 : Value) (zp2 gp2 op2 : Nat) (vp4 : Value) (zp4 gp4 op4 : Nat) (r : Bool) (hm : law04_PolyValues p0 p1 p2 p3 p4 = some r) (w : World) (hp2 : Rd w zp2 gp2 op2 1 vp2 (p2.map uwc)) (hp4 : Rd w zp4 gp4 op4 2 vp4 (p4.map TPoint.cs))  :
    Calls Try.prog 6 [kv p0, .agg (TScheme.cs p1).toArray, vp2, wv p3, vp4].toArray w fun e w' => ∃ v, e = .returned v ∧ (v = .bool r ∧ Gr w w') := by
  have lt1 := hp2.lth
  have lt2 := hp4.lth
  unfold law04_PolyValues at hm
  refine calls_of_sw (R := fun v w' => v = .bool r ∧ Gr w w') 118 Try.func6 rfl rfl rfl ?_
  refine sw_seq ?_
  -- region 0 law.go:12
  refine sw_region [(0, 0), (1, 0), (2, 0)] rfl rfl rfl ?_
  refine sd_ev rfl rfl rfl (ev_box (cs := kb p0) rfl rfl) ?_
  rintro _ w1 ⟨b1, rfl, hbw1, Bw1, Gw1⟩
  have z3 := Gw1.size
  have lt4 := Bw1.lt
  refine sd_ev rfl rfl rfl (ev_box (cs := TScheme.cs p1) rfl rfl) ?_
  rintro _ w2 ⟨b2, rfl, hbw2, Bw2, Gw2⟩
  have z5 := Gw2.size
  have lt6 := Bw2.lt
  refine sd_vv rfl rfl rfl (vv_assign rfl) ?_
  refine sd_done ?_
  refine sw_seq ?_
  -- region 1 law.go:13
  refine sw_region [(0, 0), (1, 0), (2, 0), (3, 0), (4, 0), (5, 0), (6, 0), (7, 0)] rfl rfl rfl ?_
  have B7 := (Bx.gr Bw1 Gw2)
  refine sd_vv rfl rfl rfl (vv_loadW agg_23 rfl B7 rfl) ?_
  refine sd_vv rfl rfl rfl (vv_loadW agg_28 rfl Bw2 rfl) ?_
  have hb := bnd hm; clear hm; obtain ⟨x1, hx1, hm⟩ := hb
  refine sd_ev rfl rfl rfl (ev_call en_29 rfl (poly_Coefficients_w p0 p1 _ hx1 _)) ?_
  rintro _ w3 ⟨u3_r0_s, z3_r0_s, g3_r0_s, rfl, O3_r0_s, f3_r0_s, Gw3⟩
  have z8 := Gw3.size
  have lt9 := O3_r0_s.lth
  refine sd_vv rfl rfl rfl (vv_move rfl) ?_
  refine sd_vv rfl rfl rfl (vv_extract rfl rfl) ?_
  refine sd_vv rfl rfl rfl (vv_extract rfl rfl) ?_
  refine sd_vv rfl rfl rfl (vv_assign rfl) ?_
  refine sd_vv rfl rfl rfl (vv_assign rfl) ?_
  refine sd_done ?_
  refine sw_seq ?_
  -- region 2 law.go:14
  refine sw_region [(0, 0), (1, 0), (2, 0), (3, 0), (4, 0), (5, 0), (6, 0), (7, 0)] rfl rfl rfl ?_
  have B10 := (Bx.gr B7 Gw3)
  refine sd_vv rfl rfl rfl (vv_loadW agg_23 rfl B10 rfl) ?_
  have B11 := (Bx.gr Bw2 Gw3)
  refine sd_vv rfl rfl rfl (vv_loadW agg_28 rfl B11 rfl) ?_
  have hb := bnd hm; clear hm; obtain ⟨x2, hx2, hm⟩ := hb
  refine sd_ev rfl rfl rfl (ev_call en_30 rfl (ref04_Coefficients_w p0 p1 _ hx2 _)) ?_
  rintro _ w4 ⟨u4_r0_s, z4_r0_s, g4_r0_s, rfl, O4_r0_s, f4_r0_s, Gw4⟩
  have z12 := Gw4.size
  have lt13 := O4_r0_s.lth
  refine sd_vv rfl rfl rfl (vv_move rfl) ?_
  refine sd_vv rfl rfl rfl (vv_extract rfl rfl) ?_
  refine sd_vv rfl rfl rfl (vv_extract rfl rfl) ?_
  refine sd_vv rfl rfl rfl (vv_assign rfl) ?_
  refine sd_vv rfl rfl rfl (vv_assign rfl) ?_
  refine sd_done ?_
  refine sw_seq ?_
  have X14 : Gr w w4 := (Gr.trans (Gr.trans (Gr.trans (Gr.trans (Gr.refl w) Gw1) Gw2) Gw3) Gw4)
  refine sw_joinD (β := Bool) [32, 33, 34, 35, 36, 37, 38, 39, 40, 41, 42, 43, 44, 45, 46, 47] (fun a3 => [(47, .bool a3)]) (fun a3 wr => (law04_PolyValues_J1 p1 p2 p3 p4 a3 = some r) ∧ Kz [] w4 wr) ?_ ?_
  · clear hm; rintro a3 w5 ⟨hm, Kw5⟩
    have z15 := Kw5.size
    unfold law04_PolyValues_J1 at hm
    refine sw_cond rfl (fun c1 => ?_) (fun c1 => ?_)
    ·
      replace hm := cnd_t c1 hm
      refine sw_seq ?_
      -- region 4 law.go:16
      refine sw_region [(0, 0)] rfl rfl rfl ?_
      refine sd_vv rfl rfl rfl (vv_assign rfl) ?_
      refine sd_done ?_
      refine sw_ret ?_
      refine then_r ?_
      have X16 : Gr w w5 := (Gr.kz X14 Kw5)
      have hr := Option.some.inj hm
      subst hr
      refine ⟨_, _, rfl, res_1 rfl (rv_tmp rfl), ?_⟩
      exact ⟨rfl, X16⟩
    ·
      replace hm := cnd_f c1 hm
      refine sw_skip ?_
      refine then_n ?_
      refine sw_seq ?_
      -- region 5 law.go:18
      refine sw_region [(0, 0), (1, 0), (2, 0), (3, 0)] rfl rfl rfl ?_
      refine sd_ev rfl rfl rfl (ev_litT ([] : List (BitVec 64)) uwc bsl_60_0 rfl rfl (ws_of rfl) rfl rfl rfl) ?_
      rintro vw6 w6 ⟨gw6, hbw6, Ow6, Gw6⟩
      have z17 := Gw6.size
      have lt18 := Ow6.lth
      refine sd_vv rfl rfl rfl (vv_move rfl) ?_
      have B19 := (Rd.gr (Rd.kz (Rd.gr (Rd.gr (Rd.gr (Rd.gr hp2 Gw1) Gw2) Gw3) Gw4) Kw5) Gw6)
      have hb := bnd hm; clear hm; obtain ⟨l4, hl4, hm⟩ := hb
      refine sd_ev rfl rfl rfl (ev_appT (l := ([] : List (BitVec 64))) (m := p2) (c := uwc) apt_60 rfl rfl Ow6 B19 hl4 (by decide)) ?_
      rintro vw7 w7 ⟨zw7, gw7, Ow7, Aw7, qw7, rw7⟩
      have z20 := Aw7.size
      refine sd_vv rfl rfl rfl (vv_assign rfl) ?_
      refine sd_done ?_
      refine sw_seq ?_
      -- region 6 law.go:19
      refine sw_region [(0, 0), (1, 0), (2, 0), (3, 0), (4, 0), (5, 0), (6, 0), (7, 0), (8, 0)] rfl rfl rfl ?_
      have B21 := (Bx.ka (Bx.gr (Bx.kz (Bx.gr B11 Gw4) Kw5) Gw6) Aw7 (tk1 ((.inr tk0) : 1 = 0 ∨ gw6 ≠ b2)))
      refine sd_vv rfl rfl rfl (vv_loadW agg_28 rfl B21 rfl) ?_
      refine sd_vv rfl rfl rfl (vv_move rfl) ?_
      refine sd_vv rfl rfl rfl (vv_move rfl) ?_
      have hb := bnd hm; clear hm; obtain ⟨x5, hx5, hm⟩ := hb
      refine sd_ev rfl rfl rfl (ev_call en_34 rfl (poly_Value_w p1 l4 p3 _ _ _ _ _ hx5 _ (Own.rd Ow7))) ?_
      rintro _ w8 ⟨rfl, Gw8⟩
      have z22 := Gw8.size
      refine sd_vv rfl rfl rfl (vv_move rfl) ?_
      refine sd_vv rfl rfl rfl (vv_extract rfl rfl) ?_
      refine sd_vv rfl rfl rfl (vv_extract rfl rfl) ?_
      refine sd_vv rfl rfl rfl (vv_assign rfl) ?_
      refine sd_vv rfl rfl rfl (vv_assign rfl) ?_
      refine sd_done ?_
      refine sw_seq ?_
      -- region 7 law.go:20
      refine sw_region [(0, 0), (1, 0), (2, 0), (3, 0), (4, 0), (5, 0), (6, 0), (7, 0), (8, 0)] rfl rfl rfl ?_
      have B23 := (Bx.gr B21 Gw8)
      refine sd_vv rfl rfl rfl (vv_loadW agg_28 rfl B23 rfl) ?_
      refine sd_vv rfl rfl rfl (vv_move rfl) ?_
      refine sd_vv rfl rfl rfl (vv_move rfl) ?_
      have B24 := (Rd.gr (Rd.ka B19 Aw7 (tk1 ((pv_sw (.inr (tk1 lt1.o))) : zp2 = 0 ∨ 1 = 0 ∨ gp2 ≠ gw6))) Gw8)
      have hb := bnd hm; clear hm; obtain ⟨x6, hx6, hm⟩ := hb
      refine sd_ev rfl rfl rfl (ev_call en_35 rfl (ref04_Value_w p1 p2 p3 _ _ _ _ _ hx6 _ B24)) ?_
      rintro _ w9 ⟨rfl, Gw9⟩
      have z25 := Gw9.size
      refine sd_vv rfl rfl rfl (vv_move rfl) ?_
      refine sd_vv rfl rfl rfl (vv_extract rfl rfl) ?_
      refine sd_vv rfl rfl rfl (vv_extract rfl rfl) ?_
      refine sd_vv rfl rfl rfl (vv_assign rfl) ?_
      refine sd_vv rfl rfl rfl (vv_assign rfl) ?_
      refine sd_done ?_
      refine sw_seq ?_
      have X26 : Gr w w9 := (Gr.trans (Gr.trans (Gr.ka (Gr.trans (Gr.kz X14 Kw5) Gw6) Aw7 (tk1 ((.inr tk0) : 1 = 0 ∨ w.heap.size ≤ gw6))) Gw8) Gw9)
      refine sw_joinD (β := Bool) [12, 14, 65, 66, 67, 68, 69, 70, 71, 72, 73, 74, 75, 76, 77, 78] (fun a7 => [(12, .int .i64 x5.2), (14, .int .i64 x6.2), (78, .bool a7)]) (fun a7 wr => (law04_PolyValues_J2 p1 p4 a7 = some r) ∧ Kz [] w9 wr) ?_ ?_
      · clear hm; rintro a7 w10 ⟨hm, Kw10⟩
        have z27 := Kw10.size
        unfold law04_PolyValues_J2 at hm
        refine sw_cond rfl (fun c2 => ?_) (fun c2 => ?_)
        ·
          replace hm := cnd_t c2 hm
          refine sw_seq ?_
          -- region 9 law.go:22
          refine sw_region [(0, 0)] rfl rfl rfl ?_
          refine sd_vv rfl rfl rfl (vv_assign rfl) ?_
          refine sd_done ?_
          refine sw_ret ?_
          refine then_r ?_
          have X28 : Gr w w10 := (Gr.kz X26 Kw10)
          have hr := Option.some.inj hm
          subst hr
          refine ⟨_, _, rfl, res_1 rfl (rv_tmp rfl), ?_⟩
          exact ⟨rfl, X28⟩
        ·
          replace hm := cnd_f c2 hm
          refine sw_skip ?_
          refine then_n ?_
          refine sw_seq ?_
          -- region 10 law.go:24
          refine sw_region [(0, 0), (1, 0), (2, 0), (3, 0)] rfl rfl rfl ?_
          refine sd_ev rfl rfl rfl (ev_litT ([] : List TPoint) TPoint.cs bsl_43_0 rfl rfl (ws_of rfl) rfl rfl rfl) ?_
          rintro vw11 w11 ⟨gw11, hbw11, Ow11, Gw11⟩
          have z29 := Gw11.size
          have lt30 := Ow11.lth
          refine sd_vv rfl rfl rfl (vv_move rfl) ?_
          have B31 := (Rd.gr (Rd.kz (Rd.gr (Rd.gr (Rd.ka (Rd.gr (Rd.kz (Rd.gr (Rd.gr (Rd.gr (Rd.gr hp4 Gw1) Gw2) Gw3) Gw4) Kw5) Gw6) Aw7 (tk1 ((pv_sw (.inr (tk1 lt2.o))) : zp4 = 0 ∨ 1 = 0 ∨ gp4 ≠ gw6))) Gw8) Gw9) Kw10) Gw11)
          have hb := bnd hm; clear hm; obtain ⟨l8, hl8, hm⟩ := hb
          refine sd_ev rfl rfl rfl (ev_appT (l := ([] : List TPoint)) (m := p4) (c := TPoint.cs) apt_43 rfl rfl Ow11 B31 hl8 (by decide)) ?_
          rintro vw12 w12 ⟨zw12, gw12, Ow12, Aw12, qw12, rw12⟩
          have z32 := Aw12.size
          refine sd_vv rfl rfl rfl (vv_assign rfl) ?_
          refine sd_done ?_
          refine sw_seq ?_
          -- region 11 law.go:25
          refine sw_region [(0, 0), (1, 0), (2, 0), (3, 0), (4, 0), (5, 0), (6, 0), (7, 0)] rfl rfl rfl ?_
          have B33 := (Bx.ka (Bx.gr (Bx.kz (Bx.gr B23 Gw9) Kw10) Gw11) Aw12 (tk1 ((.inr tk0) : 1 = 0 ∨ gw11 ≠ b2)))
          refine sd_vv rfl rfl rfl (vv_loadW agg_28 rfl B33 rfl) ?_
          refine sd_vv rfl rfl rfl (vv_move rfl) ?_
          have hb := bnd hm; clear hm; obtain ⟨x9, hx9, hm⟩ := hb
          refine sd_ev rfl rfl rfl (ev_call en_36 rfl (poly_Interpolate_w p1 l8 _ _ _ _ _ hx9 _ (Own.rd Ow12))) ?_
          rintro _ w13 ⟨u13_r0_s, z13_r0_s, g13_r0_s, rfl, O13_r0_s, f13_r0_s, Gw13⟩
          have z34 := Gw13.size
          have lt35 := O13_r0_s.lth
          refine sd_vv rfl rfl rfl (vv_move rfl) ?_
          refine sd_vv rfl rfl rfl (vv_extract rfl rfl) ?_
          refine sd_vv rfl rfl rfl (vv_extract rfl rfl) ?_
          refine sd_vv rfl rfl rfl (vv_assign rfl) ?_
          refine sd_vv rfl rfl rfl (vv_assign rfl) ?_
          refine sd_done ?_
          refine sw_seq ?_
          -- region 12 law.go:26
          refine sw_region [(0, 0), (1, 0), (2, 0), (3, 0), (4, 0), (5, 0), (6, 0), (7, 0)] rfl rfl rfl ?_
          have B36 := (Bx.gr B33 Gw13)
          refine sd_vv rfl rfl rfl (vv_loadW agg_28 rfl B36 rfl) ?_
          refine sd_vv rfl rfl rfl (vv_move rfl) ?_
          have B37 := (Rd.gr (Rd.ka B31 Aw12 (tk1 ((pv_sw (.inr (tk1 lt2.o))) : zp4 = 0 ∨ 1 = 0 ∨ gp4 ≠ gw11))) Gw13)
          have hb := bnd hm; clear hm; obtain ⟨x10, hx10, hm⟩ := hb
          refine sd_ev rfl rfl rfl (ev_call en_37 rfl (ref04_Interpolate_w p1 p4 _ _ _ _ _ hx10 _ B37)) ?_
          rintro _ w14 ⟨u14_r0_s, z14_r0_s, g14_r0_s, rfl, O14_r0_s, f14_r0_s, Gw14⟩
          have z38 := Gw14.size
          have lt39 := O14_r0_s.lth
          refine sd_vv rfl rfl rfl (vv_move rfl) ?_
          refine sd_vv rfl rfl rfl (vv_extract rfl rfl) ?_
          refine sd_vv rfl rfl rfl (vv_extract rfl rfl) ?_
          refine sd_vv rfl rfl rfl (vv_assign rfl) ?_
          refine sd_vv rfl rfl rfl (vv_assign rfl) ?_
          refine sd_done ?_
          refine sw_seq ?_
          have X40 : Gr w w14 := (Gr.trans (Gr.trans (Gr.ka (Gr.trans (Gr.kz X26 Kw10) Gw11) Aw12 (tk1 ((.inr tk0) : 1 = 0 ∨ w.heap.size ≤ gw11))) Gw13) Gw14)
          refine sw_joinD (β := Bool) [11, 12, 13, 14, 94, 95, 96, 97, 98, 99, 100, 101, 102] (fun a11 => [(102, .bool a11)]) (fun a11 wr => (law04_PolyValues_J3 p4 l8 a11 = some r) ∧ Kz [] w14 wr) ?_ ?_
          · clear hm; rintro a11 w15 ⟨hm, Kw15⟩
            have z41 := Kw15.size
            unfold law04_PolyValues_J3 at hm
            refine sw_cond rfl (fun c3 => ?_) (fun c3 => ?_)
            ·
              replace hm := cnd_t c3 hm
              refine sw_seq ?_
              -- region 14 law.go:28
              refine sw_region [(0, 0)] rfl rfl rfl ?_
              refine sd_vv rfl rfl rfl (vv_assign rfl) ?_
              refine sd_done ?_
              refine sw_ret ?_
              refine then_r ?_
              have X42 : Gr w w15 := (Gr.kz X40 Kw15)
              have hr := Option.some.inj hm
              subst hr
              refine ⟨_, _, rfl, res_1 rfl (rv_tmp rfl), ?_⟩
              exact ⟨rfl, X42⟩
            ·
              replace hm := cnd_f c3 hm
              refine sw_skip ?_
              refine then_n ?_
              refine sw_seq ?_
              refine sw_seq ?_
              -- region 15 law.go:30
              refine sw_region [(0, 0)] rfl rfl rfl ?_
              refine sd_vv rfl rfl rfl (vv_assign rfl) ?_
              refine sd_done ?_
              refine sw_block ?_
              have X43 : Gr w w15 := (Gr.kz X40 Kw15)
              have B44 := (Rd.kz (Rd.gr (Rd.gr (Rd.ka (Rd.gr (Rd.kz (Rd.gr B24 Gw9) Kw10) Gw11) Aw12 (tk1 ((pv_sw (.inr (tk1 lt1.o))) : zp2 = 0 ∨ 1 = 0 ∨ gp2 ≠ gw11))) Gw13) Gw14) Kw15)
              have B45 := (Rd.kz (Rd.gr B37 Gw14) Kw15)
              have B46 := (Own.kz (Own.gr (Own.gr (Own.ka (Own.gr (Own.kz (Own.gr (Own.gr (Own.ka (Own.gr (Own.kz (Own.gr O3_r0_s Gw4) Kw5) Gw6) Aw7 (tk1 ((pv_sw (.inr (tk1 lt9.o))) : z3_r0_s = 0 ∨ 1 = 0 ∨ g3_r0_s ≠ gw6))) Gw8) Gw9) Kw10) Gw11) Aw12 (tk1 ((pv_sw (.inr (tk1 lt9.o))) : z3_r0_s = 0 ∨ 1 = 0 ∨ g3_r0_s ≠ gw11))) Gw13) Gw14) Kw15)
              have B47 := (Own.kz (Own.gr (Own.gr (Own.ka (Own.gr (Own.kz (Own.gr (Own.gr (Own.ka (Own.gr (Own.kz O4_r0_s Kw5) Gw6) Aw7 (tk1 ((pv_sw (.inr (tk1 lt13.o))) : z4_r0_s = 0 ∨ 1 = 0 ∨ g4_r0_s ≠ gw6))) Gw8) Gw9) Kw10) Gw11) Aw12 (tk1 ((pv_sw (.inr (tk1 lt13.o))) : z4_r0_s = 0 ∨ 1 = 0 ∨ g4_r0_s ≠ gw11))) Gw13) Gw14) Kw15)
              have B48 := (Own.kz (Own.gr (Own.gr (Own.ka (Own.gr (Own.kz (Own.gr (Own.gr Ow7 Gw8) Gw9) Kw10) Gw11) Aw12 (tk1 ((pv_sw (.inr (tk1 qw7.o))) : zw7 = 0 ∨ 1 = 0 ∨ gw7 ≠ gw11))) Gw13) Gw14) Kw15)
              have B49 := (Own.kz (Own.gr (Own.gr Ow12 Gw13) Gw14) Kw15)
              have B50 := (Own.kz (Own.gr O13_r0_s Gw14) Kw15)
              have B51 := (Own.kz O14_r0_s Kw15)
              refine sw_loopD (α := Nat × Int) [10, 19, 103, 104, 105, 106, 107, 108, 109, 110, 111, 112, 113, 114, 115, 116, 117] (fun ⟨n4, a13⟩ => [(10, .bool false), (19, .int .i64 a13)]) (fun ⟨n4, a13⟩ wr => (fixN (law04_PolyValues_L4 p4 l8) n4 a13 = some r) ∧ Kz [] w15 wr) (fun ⟨n4, a13⟩ => n4) ⟨FUEL, 0⟩ ?_ ?_ ?_
              · repeat' first | exact trivial | refine ⟨rfl, ?_⟩
              · exact ⟨hm, Kz.refl _ _⟩
              · clear hm; rintro ⟨n4, a13⟩ w16 ⟨hm, Kw16⟩
                have z52 := Kw16.size
                have hb := fix_succ hm; clear hm; obtain ⟨n4, rfl, hm⟩ := hb
                generalize hrec4 : fixN (law04_PolyValues_L4 p4 l8) n4 = rec4 at hm
                unfold law04_PolyValues_L4 at hm
                try dsimp only at hm
                refine sw_seq ?_
                refine sw_seq ?_
                -- region 16 law.go:30
                refine sw_region [(0, 0), (1, 0), (2, 0), (3, 0)] rfl rfl rfl ?_
                refine sd_vv rfl rfl rfl (vv_move rfl) ?_
                refine sd_vv rfl rfl rfl (vv_move rfl) ?_
                have B53 := (Rd.kz B45 Kw16)
                refine sd_vv rfl rfl rfl (vv_lenT (l := p4) (c := TPoint.cs) Try.underlying43 rfl B53) ?_
                refine sd_vv rfl rfl rfl (vv_lss (a := a13) (b := (p4.length : Int)) rfl rfl) ?_
                refine sd_done ?_
                refine sw_cond rfl (fun c4 => ?_) (fun c4 => ?_)
                ·
                  replace hm := ite_t (of_decide_eq_true c4) hm
                  refine sw_skip ?_
                  refine then_n ?_
                  refine sw_seq ?_
                  refine sw_block ?_
                  refine sw_seq ?_
                  -- region 18 law.go:31 DRAWS
                  refine sw_drawN [([])] [] (.leaf [(0, 10), (1, 10), (2, 10), (3, 10), (4, 10), (5, 10), (6, 10), (7, 10), (8, 10)]) (by kernel_rfl) (by kernel_rfl) rfl (by kernel_rfl) ?_
                  intro w17 Gw17 zw17
                  refine sdz_leaf ?_
                  refine dd_hn 0 rfl rfl rfl rfl (Kp.refl ([]) w17) (fun w hS => vv_move rfl) ?_
                  refine dd_hn 0 rfl rfl rfl rfl (Kp.refl ([]) w17) (fun w hS => vv_move rfl) ?_
                  have hb := bnd hm; clear hm; obtain ⟨y14, hy14, hm⟩ := hb
                  have B54 := (Own.gr (Own.kz B49 Kw16) Gw17)
                  refine dd_hn 0 rfl rfl rfl rfl (Kp.refl ([]) w17) (fun w hS => vv_ixT (i := a13) Try.underlying43 (agg_31).siz rfl (Own.rd (Own.kp B54 hS)) rfl hy14) ?_
                  refine dd_hn 0 rfl rfl rfl rfl (Kp.refl ([]) w17) (fun w hS => vv_elWT agg_31 rfl (Own.rd (Own.kp B54 hS)) hy14 (by first | rfl | omega)) ?_
                  refine dd_hn 0 rfl rfl rfl rfl (Kp.refl ([]) w17) (fun w hS => vv_move rfl) ?_
                  refine dd_hn 0 rfl rfl rfl rfl (Kp.refl ([]) w17) (fun w hS => vv_move rfl) ?_
                  have hb := bnd hm; clear hm; obtain ⟨y15, hy15, hm⟩ := hb
                  have B55 := (Rd.gr B53 Gw17)
                  refine dd_hn 0 rfl rfl rfl rfl (Kp.refl ([]) w17) (fun w hS => vv_ixT (i := a13) Try.underlying43 (agg_31).siz rfl (Rd.kp B55 hS) rfl hy15) ?_
                  refine dd_hn 0 rfl rfl rfl rfl (Kp.refl ([]) w17) (fun w hS => vv_elWT agg_31 rfl (Rd.kp B55 hS) hy15 (by first | rfl | omega)) ?_
                  refine dd_hn 0 rfl rfl rfl rfl (Kp.refl ([]) w17) (fun w hS => vv_neqS (cf := TPoint.cs) (a := y14) (b := y15) eqt_31 rfl rfl rfl rfl (fun h => TPoint.cs_inj h)) ?_
                  refine sd_done ?_
                  refine sw_cond rfl (fun c5 => ?_) (fun c5 => ?_)
                  ·
                    replace hm := ite_t (of_decide_eq_true c5) hm
                    refine sw_seq ?_
                    -- region 19 law.go:32
                    refine sw_region [(0, 0)] rfl rfl rfl ?_
                    refine sd_vv rfl rfl rfl (vv_assign rfl) ?_
                    refine sd_done ?_
                    refine sw_ret ?_
                    refine block_r ?_
                    refine then_r ?_
                    refine then_r ?_
                    refine block_r ?_
                    refine then_r ?_
                    have X56 : Gr w w17 := (Gr.trans (Gr.kz X43 Kw16) Gw17)
                    have hr := Option.some.inj hm
                    subst hr
                    refine ⟨_, _, rfl, res_1 rfl (rv_tmp rfl), ?_⟩
                    exact ⟨rfl, X56⟩
                  ·
                    replace hm := ite_f (of_decide_eq_false c5) hm
                    refine sw_skip ?_
                    refine block_n ?_
                    refine then_n ?_
                    -- region 17 law.go:30
                    refine sw_region [(0, 0), (1, 0), (2, 0)] rfl rfl rfl ?_
                    refine sd_vv rfl rfl rfl (vv_move rfl) ?_
                    refine sd_vv rfl rfl rfl (vv_add (k := .i64) (a := a13) (b := 1) rfl rfl) ?_
                    refine sd_vv rfl rfl rfl (vv_assign rfl) ?_
                    refine sd_nil ?_
                    have K_57 : Kz [] w15 w17 := (Kz.gr Kw16 Gw17)
                    subst hrec4
                    refine ⟨rfl, ⟨n4, w64 (a13 + 1)⟩, ?_, ⟨hm, K_57⟩, Nat.lt_succ_self _⟩
                    repeat' first | exact trivial | refine ⟨rfl, ?_⟩
                ·
                  replace hm := ite_f (of_decide_eq_false c4) hm
                  refine sw_exit ?_
                  refine then_x ?_
                  refine then_x ?_
                  refine block_x ?_
                  refine then_n ?_
                  refine sw_seq ?_
                  -- region 20 law.go:35
                  refine sw_region [(0, 0)] rfl rfl rfl ?_
                  refine sd_vv rfl rfl rfl (vv_assign rfl) ?_
                  refine sd_done ?_
                  refine sw_ret ?_
                  have X58 : Gr w w16 := (Gr.kz X43 Kw16)
                  have hr := Option.some.inj hm
                  subst hr
                  refine ⟨_, _, rfl, res_1 rfl (rv_tmp rfl), ?_⟩
                  exact ⟨rfl, X58⟩
          ·
            -- region 13 law.go:27
            refine sw_region [(0, 0), (1, 0), (2, 0), (3, 0), (4, 0), (5, 0), (6, 0), (7, 0), (8, 0)] rfl rfl rfl ?_
            refine sd_vv rfl rfl rfl (vv_move rfl) ?_
            refine sd_vv rfl rfl rfl (vv_move rfl) ?_
            have B59 := (Own.gr O13_r0_s Gw14)
            have hb := bnd hm; clear hm; obtain ⟨x16, hx16, hm⟩ := hb
            refine sd_ev rfl rfl rfl (ev_call en_31 rfl (ref04_SameWords_w x9.1 x10.1 _ _ _ _ _ _ _ _ _ hx16 _ (Own.rd B59) (Own.rd O14_r0_s))) ?_
            rintro _ w18 ⟨rfl, Gw18⟩
            have z60 := Gw18.size
            refine sd_vv rfl rfl rfl (vv_not rfl) ?_
            refine sd_split rfl rfl rfl (vv_move rfl) (fun c6 => ?_) (fun c6 => ?_)
            ·
              replace hm := cnd_t c6 hm
              refine sd_skip rfl rfl rfl ?_
              refine sd_skip rfl rfl rfl ?_
              refine sd_skip rfl rfl rfl ?_
              refine sd_vv rfl rfl rfl (vv_pickT rfl rfl) ?_
              refine sd_nil ?_
              have K_61 : Kz [] w14 w18 := (Kz.gr (Kz.refl _ _) Gw18)
              refine ⟨rfl, true, ?_, hm, K_61⟩
              repeat' first | exact trivial | refine ⟨rfl, ?_⟩
            ·
              replace hm := cnd_f c6 hm
              refine sd_vv rfl rfl rfl (vv_move rfl) ?_
              refine sd_vv rfl rfl rfl (vv_move rfl) ?_
              refine sd_vv rfl rfl rfl (vv_neq (a := x9.2) (b := x10.2) rfl rfl) ?_
              refine sd_vv rfl rfl rfl (vv_pickF rfl rfl) ?_
              refine sd_nil ?_
              have K_62 : Kz [] w14 w18 := (Kz.gr (Kz.refl _ _) Gw18)
              refine ⟨rfl, (decide (x9.2 ≠ x10.2)), ?_, hm, K_62⟩
              repeat' first | exact trivial | refine ⟨rfl, ?_⟩
      ·
        -- region 8 law.go:21
        refine sw_region [(0, 0), (1, 0), (2, 0), (3, 0), (4, 0), (5, 0), (6, 0), (7, 0), (8, 0), (9, 0), (10, 0), (11, 0), (12, 0), (13, 0)] rfl rfl rfl ?_
        refine sd_vv rfl rfl rfl (vv_move rfl) ?_
        refine sd_vv rfl rfl rfl (vv_move rfl) ?_
        refine sd_vv rfl rfl rfl (vv_neqU (c := x5.1) (d := x6.1) rfl rfl) ?_
        refine sd_split rfl rfl rfl (vv_move rfl) (fun c7 => ?_) (fun c7 => ?_)
        ·
          replace hm := ite_t (of_decide_eq_true c7) hm
          refine sd_skip rfl rfl rfl ?_
          refine sd_skip rfl rfl rfl ?_
          refine sd_skip rfl rfl rfl ?_
          refine sd_vv rfl rfl rfl (vv_pickT rfl rfl) ?_
          refine sd_vv rfl rfl rfl (vv_move rfl) ?_
          refine sd_skip rfl rfl rfl ?_
          refine sd_skip rfl rfl rfl ?_
          refine sd_skip rfl rfl rfl ?_
          refine sd_skip rfl rfl rfl ?_
          refine sd_vv rfl rfl rfl (vv_pickT rfl rfl) ?_
          refine sd_nil ?_
          have K_63 : Kz [] w9 w9 := (Kz.refl _ _)
          refine ⟨rfl, true, ?_, hm, K_63⟩
          repeat' first | exact trivial | refine ⟨rfl, ?_⟩
        ·
          replace hm := ite_f (of_decide_eq_false c7) hm
          refine sd_vv rfl rfl rfl (vv_move rfl) ?_
          refine sd_vv rfl rfl rfl (vv_move rfl) ?_
          refine sd_vv rfl rfl rfl (vv_neq (a := x5.2) (b := x6.2) rfl rfl) ?_
          refine sd_vv rfl rfl rfl (vv_pickF rfl rfl) ?_
          refine sd_split rfl rfl rfl (vv_move rfl) (fun c8 => ?_) (fun c8 => ?_)
          ·
            replace hm := ite_t (of_decide_eq_true c8) hm
            refine sd_skip rfl rfl rfl ?_
            refine sd_skip rfl rfl rfl ?_
            refine sd_skip rfl rfl rfl ?_
            refine sd_skip rfl rfl rfl ?_
            refine sd_vv rfl rfl rfl (vv_pickT rfl rfl) ?_
            refine sd_nil ?_
            have K_64 : Kz [] w9 w9 := (Kz.refl _ _)
            refine ⟨rfl, true, ?_, hm, K_64⟩
            repeat' first | exact trivial | refine ⟨rfl, ?_⟩
          ·
            replace hm := ite_f (of_decide_eq_false c8) hm
            refine sd_vv rfl rfl rfl (vv_move rfl) ?_
            refine sd_vv rfl rfl rfl (vv_move rfl) ?_
            have B65 := (Own.gr (Own.gr Ow7 Gw8) Gw9)
            have B66 := (Rd.gr B24 Gw9)
            have hb := bnd hm; clear hm; obtain ⟨x17, hx17, hm⟩ := hb
            refine sd_ev rfl rfl rfl (ev_call en_31 rfl (ref04_SameWords_w l4 p2 _ _ _ _ _ _ _ _ _ hx17 _ (Own.rd B65) B66)) ?_
            rintro _ w19 ⟨rfl, Gw19⟩
            have z67 := Gw19.size
            refine sd_vv rfl rfl rfl (vv_not rfl) ?_
            refine sd_vv rfl rfl rfl (vv_pickF rfl rfl) ?_
            refine sd_nil ?_
            have K_68 : Kz [] w9 w19 := (Kz.gr (Kz.refl _ _) Gw19)
            refine ⟨rfl, (!x17), ?_, hm, K_68⟩
            repeat' first | exact trivial | refine ⟨rfl, ?_⟩
  ·
    -- region 3 law.go:15 DRAWS
    refine sw_drawN [([])] [] (.leaf [(0, 10), (1, 10), (2, 0), (3, 10), (4, 10), (5, 10), (6, 10), (7, 10), (8, 10), (9, 10), (10, 10), (12, 10), (11, 0), (13, 0), (14, 10), (15, 10)]) (by kernel_rfl) (by kernel_rfl) rfl (by kernel_rfl) ?_
    intro w20 Gw20 zw20
    refine sdz_leaf ?_
    refine dd_hn 0 rfl rfl rfl rfl (Kp.refl ([]) w20) (fun w hS => vv_move rfl) ?_
    refine dd_hn 0 rfl rfl rfl rfl (Kp.refl ([]) w20) (fun w hS => vv_move rfl) ?_
    have B69 := (Own.gr (Own.gr O3_r0_s Gw4) Gw20)
    have B70 := (Own.gr O4_r0_s Gw20)
    have hb := bnd hm; clear hm; obtain ⟨x18, hx18, hm⟩ := hb
    refine dd_z [] rfl rfl rfl (ev_call en_31 rfl (ref04_SameWords_w x1.1 x2.1 _ _ _ _ _ _ _ _ _ hx18 _ (Own.rd B69) (Own.rd B70))) ⟨fun _ => tk0, trivial⟩ ?_
    rintro _ w21 ⟨rfl, Gw21⟩
    have z71 := Gw21.size
    refine ⟨Kz.ofGr Gw21, ?_⟩
    have S72 := (Kp.gr (Kp.refl ([]) w20) Gw21)
    refine dd_hn 0 rfl rfl rfl rfl S72 (fun w hS => vv_not rfl) ?_
    refine dd_pn 0 rfl rfl rfl rfl S72 (fun w hS => vv_move rfl) (fun c9 => ?_) (fun c9 => ?_)
    ·
      replace hm := cnd_t c9 hm
      refine dd_sn 0 rfl rfl rfl rfl S72 ?_
      refine dd_sn 0 rfl rfl rfl rfl S72 ?_
      refine dd_sn 0 rfl rfl rfl rfl S72 ?_
      refine dd_hn 0 rfl rfl rfl rfl S72 (fun w hS => vv_pickT rfl rfl) ?_
      refine dd_hn 0 rfl rfl rfl rfl S72 (fun w hS => vv_move rfl) ?_
      refine dd_sn 0 rfl rfl rfl rfl S72 ?_
      refine dd_sn 0 rfl rfl rfl rfl S72 ?_
      refine dd_sz rfl rfl rfl ?_
      refine dd_sz rfl rfl rfl ?_
      refine dd_sn 0 rfl rfl rfl rfl S72 ?_
      refine dd_hn 0 rfl rfl rfl rfl S72 (fun w hS => vv_pickT rfl rfl) ?_
      refine sd_nil ?_
      have K_73 : Kz [] w4 w21 := (Kz.gr (Kz.gr (Kz.refl _ _) Gw20) Gw21)
      refine ⟨rfl, true, ?_, hm, K_73⟩
      repeat' first | exact trivial | refine ⟨rfl, ?_⟩
    ·
      replace hm := cnd_f c9 hm
      refine dd_hn 0 rfl rfl rfl rfl S72 (fun w hS => vv_move rfl) ?_
      refine dd_hn 0 rfl rfl rfl rfl S72 (fun w hS => vv_move rfl) ?_
      refine dd_hn 0 rfl rfl rfl rfl S72 (fun w hS => vv_neq (a := x1.2) (b := x2.2) rfl rfl) ?_
      refine dd_hn 0 rfl rfl rfl rfl S72 (fun w hS => vv_pickF rfl rfl) ?_
      refine dd_pn 0 rfl rfl rfl rfl S72 (fun w hS => vv_move rfl) (fun c10 => ?_) (fun c10 => ?_)
      ·
        replace hm := ite_t (of_decide_eq_true c10) hm
        refine dd_sn 0 rfl rfl rfl rfl S72 ?_
        refine dd_sn 0 rfl rfl rfl rfl S72 ?_
        refine dd_sz rfl rfl rfl ?_
        refine dd_sz rfl rfl rfl ?_
        refine dd_sn 0 rfl rfl rfl rfl S72 ?_
        refine dd_hn 0 rfl rfl rfl rfl S72 (fun w hS => vv_pickT rfl rfl) ?_
        refine sd_nil ?_
        have K_74 : Kz [] w4 w21 := (Kz.gr (Kz.gr (Kz.refl _ _) Gw20) Gw21)
        refine ⟨rfl, true, ?_, hm, K_74⟩
        repeat' first | exact trivial | refine ⟨rfl, ?_⟩
      ·
        replace hm := ite_f (of_decide_eq_false c10) hm
        have B75 := (Bx.gr (Bx.gr B11 Gw4) Gw20)
        refine dd_hn 0 rfl rfl rfl rfl S72 (fun w hS => vv_loadW agg_28 rfl (Bx.kp B75 hS) rfl) ?_
        refine dd_hn 0 rfl rfl rfl rfl S72 (fun w hS => vv_loadW agg_28 rfl (Bx.kp B75 hS) rfl) ?_
        have hb := bnd hm; clear hm; obtain ⟨x19, hx19, hm⟩ := hb
        refine dd_z [] rfl rfl rfl (ev_call en_32 rfl (poly_Check_w p1 _ hx19 _)) ⟨fun _ => tk0, trivial⟩ ?_
        rintro _ w22 ⟨rfl, Gw22⟩
        have z76 := Gw22.size
        refine ⟨Kz.ofGr Gw22, ?_⟩
        have hb := bnd hm; clear hm; obtain ⟨x20, hx20, hm⟩ := hb
        refine dd_z [] rfl rfl rfl (ev_call en_33 rfl (ref04_Check_w p1 _ hx20 _)) ⟨fun _ => tk0, trivial⟩ ?_
        rintro _ w23 ⟨rfl, Gw23⟩
        have z77 := Gw23.size
        refine ⟨Kz.ofGr Gw23, ?_⟩
        have S78 := (Kp.gr (Kp.gr S72 Gw22) Gw23)
        refine dd_hn 0 rfl rfl rfl rfl S78 (fun w hS => vv_neq (a := x19) (b := x20) rfl rfl) ?_
        refine dd_hn 0 rfl rfl rfl rfl S78 (fun w hS => vv_pickF rfl rfl) ?_
        refine sd_nil ?_
        have K_79 : Kz [] w4 w23 := (Kz.gr (Kz.gr (Kz.gr (Kz.gr (Kz.refl _ _) Gw20) Gw21) Gw22) Gw23)
        refine ⟨rfl, (decide (x19 ≠ x20)), ?_, hm, K_79⟩
        repeat' first | exact trivial | refine ⟨rfl, ?_⟩
end Go.Proofs.Ytkdghilkigojgaa.Mx
