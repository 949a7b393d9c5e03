/- Walks that follow mirrors: Ke. Printed by mx.py. -/
import Derived.Test.YtecempahccgijaaCl
import Derived.Test.YtecempahccgijaaKeM
set_option linter.unusedVariables false
set_option linter.unusedSimpArgs false
set_option maxRecDepth 100000
namespace Go.Proofs.Ytecempahccgijaa.Mx
open Go Go.RowKit Go.Sx
theorem en_43 : En Try.prog 43 := fun _ _ => by kernel_rfl
theorem en_46 : En Try.prog 46 := fun _ _ => by kernel_rfl
theorem en_47 : En Try.prog 47 := fun _ _ => by kernel_rfl
theorem en_48 : En Try.prog 48 := fun _ _ => by kernel_rfl
theorem en_49 : En Try.prog 49 := fun _ _ => by kernel_rfl
theorem en_42 : En Try.prog 42 := fun _ _ => by kernel_rfl
theorem en_50 : En Try.prog 50 := fun _ _ => by kernel_rfl
theorem en_51 : En Try.prog 51 := fun _ _ => by kernel_rfl
theorem en_52 : En Try.prog 52 := fun _ _ => by kernel_rfl
theorem en_53 : En Try.prog 53 := fun _ _ => by kernel_rfl

set_option maxHeartbeats 2000000 in
theorem law03_CoverKeys_w (p0 : W2) (p1 : TScheme) (p2 : TSecret) (p3 : TSubset) (p4 : Int) (p5 : List Int) (vp2_1 : Value) (zp2_1 gp2_1 op2_1 : Nat) (vp5 : Value) (zp5 gp5 op5 : Nat) (r : Bool) (hm : law03_CoverKeys p0 p1 p2 p3 p4 p5 = some r) (w : World) (hp2_1 : Rd w zp2_1 gp2_1 op2_1 18 vp2_1 (p2.Labels.map TLabel.cs)) (hp5 : Rd w zp5 gp5 op5 1 vp5 (p5.map ic))  :
    Calls Try.prog 9 [kv p0, .agg (TScheme.cs p1).toArray, .agg (TSecret.cs p2 vp2_1).toArray, .agg (TSubset.cs p3).toArray, .int .i64 p4, vp5].toArray w fun e w' => ∃ v, e = .returned v ∧ (v = .bool r ∧ Gr w w') := by
  have lt1 := hp2_1.lth
  have lt2 := hp5.lth
  unfold law03_CoverKeys at hm
  refine calls_of_sw (R := fun v w' => v = .bool r ∧ Gr w w') 118 Try.func9 rfl rfl rfl ?_
  refine sw_seq ?_
  -- region 0 law.go:52
  refine sw_region [(0, 0), (1, 0), (2, 0), (3, 0), (4, 0)] rfl rfl rfl ?_
  refine sd_ev rfl rfl rfl (ev_box (cs := kb p0) rfl rfl) ?_
  rintro _ w1 ⟨b1, rfl, hbw1, Bw1, Gw1⟩
  have z3 := Gw1.size
  have lt4 := Bw1.lt
  refine sd_ev rfl rfl rfl (ev_box (cs := TScheme.cs p1) rfl rfl) ?_
  rintro _ w2 ⟨b2, rfl, hbw2, Bw2, Gw2⟩
  have z5 := Gw2.size
  have lt6 := Bw2.lt
  refine sd_ev rfl rfl rfl (ev_box (cs := TSecret.cs p2 vp2_1) rfl rfl) ?_
  rintro _ w3 ⟨b3, rfl, hbw3, Bw3, Gw3⟩
  have z7 := Gw3.size
  have lt8 := Bw3.lt
  refine sd_ev rfl rfl rfl (ev_box (cs := TSubset.cs p3) rfl rfl) ?_
  rintro _ w4 ⟨b4, rfl, hbw4, Bw4, Gw4⟩
  have z9 := Gw4.size
  have lt10 := Bw4.lt
  refine sd_vv rfl rfl rfl (vv_assign rfl) ?_
  refine sd_done ?_
  refine sw_seq ?_
  -- region 1 law.go:53
  refine sw_region [(0, 0), (1, 0), (2, 0), (3, 0)] rfl rfl rfl ?_
  have B11 := (Bx.gr Bw3 Gw4)
  refine sd_vv rfl rfl rfl (vv_loadW agg_74 rfl B11 rfl) ?_
  have B12 := (Rd.gr (Rd.gr (Rd.gr (Rd.gr hp2_1 Gw1) Gw2) Gw3) Gw4)
  have hb := bnd hm; clear hm; obtain ⟨x1, hx1, hm⟩ := hb
  refine sd_ev rfl rfl rfl (ev_call en_43 rfl (ref03_TwinSecret_w p2 _ _ _ _ _ hx1 _ B12)) ?_
  rintro _ w5 ⟨u5_r0_1, z5_r0_1, g5_r0_1, rfl, O5_r0_1, f5_r0_1, Gw5⟩
  have z13 := Gw5.size
  have lt14 := O5_r0_1.lth
  refine sd_ev rfl rfl rfl (ev_alloc (cs := TSecret.cs (TSecret.mk 0 [] (TPoint.mk 0#64 0#64)) (.slice none 0 0)) zv_74 rfl) ?_
  rintro _ w6 ⟨b6, rfl, hbw6, Bw6, Gw6⟩
  have z15 := Gw6.size
  have lt16 := Bw6.lt
  have B17 := (Own.gr O5_r0_1 Gw6)
  refine sd_ev rfl rfl rfl (ev_stM (cs' := TSecret.cs x1 u5_r0_1) (vs := TSecret.cs x1 u5_r0_1) (agg_74).siz rfl rfl rfl rfl (TSecret.cs_ones _ _ (Own.oneB B17)) Bw6 rfl rfl) ?_
  rintro _ w7 ⟨Bw7, Mw7⟩
  have z18 := Mw7.size
  refine sd_done ?_
  refine sw_seq ?_
  -- region 2 law.go:54
  refine sw_region [(0, 0), (1, 0), (2, 0), (3, 0), (4, 0), (5, 0), (6, 0), (7, 0), (8, 0), (9, 0)] rfl rfl rfl ?_
  have B19 := (Bx.md (Bx.gr (Bx.gr (Bx.gr (Bx.gr (Bx.gr Bw1 Gw2) Gw3) Gw4) Gw5) Gw6) Mw7)
  refine sd_vv rfl rfl rfl (vv_loadW agg_26 rfl B19 rfl) ?_
  have B20 := (Bx.md (Bx.gr (Bx.gr (Bx.gr (Bx.gr Bw2 Gw3) Gw4) Gw5) Gw6) Mw7)
  refine sd_vv rfl rfl rfl (vv_loadW agg_45 rfl B20 rfl) ?_
  have B21 := (Bx.md (Bx.gr (Bx.gr Bw4 Gw5) Gw6) Mw7)
  refine sd_vv rfl rfl rfl (vv_loadW agg_47 rfl B21 rfl) ?_
  have hb := bnd hm; clear hm; obtain ⟨x2, hx2, hm⟩ := hb
  refine sd_ev rfl rfl rfl (ev_call en_46 rfl (cover_SubsetKey_w p0 p1 p3 _ hx2 _)) ?_
  rintro _ w8 ⟨rfl, Gw8⟩
  have z22 := Gw8.size
  refine sd_vv rfl rfl rfl (vv_move rfl) ?_
  refine sd_vv rfl rfl rfl (vv_extract rfl rfl) ?_
  refine sd_vv rfl rfl rfl (vv_extract rfl rfl) ?_
  refine sd_ev rfl rfl rfl (ev_alloc (cs := kb k0) zv_26 rfl) ?_
  rintro _ w9 ⟨b9, rfl, hbw9, Bw9, Gw9⟩
  have z23 := Gw9.size
  have lt24 := Bw9.lt
  refine sd_ev rfl rfl rfl (ev_stM (cs' := kb x2.1) (vs := kb x2.1) (agg_26).siz rfl rfl rfl rfl rfl Bw9 rfl rfl) ?_
  rintro _ w10 ⟨Bw10, Mw10⟩
  have z25 := Mw10.size
  refine sd_vv rfl rfl rfl (vv_assign rfl) ?_
  refine sd_done ?_
  refine sw_seq ?_
  -- region 3 law.go:55
  refine sw_region [(0, 0), (1, 0), (2, 0), (3, 0), (4, 0), (5, 0), (6, 0), (7, 0), (8, 0), (9, 0)] rfl rfl rfl ?_
  have B26 := (Bx.md (Bx.gr (Bx.gr B19 Gw8) Gw9) Mw10)
  refine sd_vv rfl rfl rfl (vv_loadW agg_26 rfl B26 rfl) ?_
  have B27 := (Bx.md (Bx.gr (Bx.gr B20 Gw8) Gw9) Mw10)
  refine sd_vv rfl rfl rfl (vv_loadW agg_45 rfl B27 rfl) ?_
  have B28 := (Bx.md (Bx.gr (Bx.gr B21 Gw8) Gw9) Mw10)
  refine sd_vv rfl rfl rfl (vv_loadW agg_47 rfl B28 rfl) ?_
  have hb := bnd hm; clear hm; obtain ⟨x3, hx3, hm⟩ := hb
  refine sd_ev rfl rfl rfl (ev_call en_47 rfl (ref03_SubsetKey_w p0 p1 p3 _ hx3 _)) ?_
  rintro _ w11 ⟨rfl, Gw11⟩
  have z29 := Gw11.size
  refine sd_vv rfl rfl rfl (vv_move rfl) ?_
  refine sd_vv rfl rfl rfl (vv_extract rfl rfl) ?_
  refine sd_vv rfl rfl rfl (vv_extract rfl rfl) ?_
  refine sd_ev rfl rfl rfl (ev_alloc (cs := kb k0) zv_26 rfl) ?_
  rintro _ w12 ⟨b12, rfl, hbw12, Bw12, Gw12⟩
  have z30 := Gw12.size
  have lt31 := Bw12.lt
  refine sd_ev rfl rfl rfl (ev_stM (cs' := kb x3.1) (vs := kb x3.1) (agg_26).siz rfl rfl rfl rfl rfl Bw12 rfl rfl) ?_
  rintro _ w13 ⟨Bw13, Mw13⟩
  have z32 := Mw13.size
  refine sd_vv rfl rfl rfl (vv_assign rfl) ?_
  refine sd_done ?_
  refine sw_seq ?_
  have X33 : Gr w w13 := (Gr.md (Gr.trans (Gr.trans (Gr.md (Gr.trans (Gr.trans (Gr.md (Gr.trans (Gr.trans (Gr.trans (Gr.trans (Gr.trans (Gr.trans (Gr.refl w) Gw1) Gw2) Gw3) Gw4) Gw5) Gw6) Mw7) Gw8) Gw9) Mw10) Gw11) Gw12) Mw13)
  refine sw_joinD (β := Bool) [38, 39, 40, 41, 42, 43, 44, 45] (fun a4 => [(45, .bool a4)]) (fun a4 wr => (law03_CoverKeys_J1 p1 p2 p3 p4 p5 x1 a4 = some r) ∧ Kz [] w13 wr) ?_ ?_
  · clear hm; rintro a4 w14 ⟨hm, Kw14⟩
    have z34 := Kw14.size
    unfold law03_CoverKeys_J1 at hm
    refine sw_cond rfl (fun c1 => ?_) (fun c1 => ?_)
    ·
      replace hm := cnd_t c1 hm
      refine sw_seq ?_
      -- region 5 law.go:57
      refine sw_region [(0, 0)] rfl rfl rfl ?_
      refine sd_vv rfl rfl rfl (vv_assign rfl) ?_
      refine sd_done ?_
      refine sw_ret ?_
      refine then_r ?_
      have X35 : Gr w w14 := (Gr.kz X33 Kw14)
      have hr := Option.some.inj hm
      subst hr
      refine ⟨_, _, rfl, res_1 rfl (rv_tmp rfl), ?_⟩
      exact ⟨rfl, X35⟩
    ·
      replace hm := cnd_f c1 hm
      refine sw_skip ?_
      refine then_n ?_
      refine sw_seq ?_
      -- region 6 law.go:59
      refine sw_region [(0, 0), (1, 0), (2, 0), (3, 0), (4, 0), (5, 0), (6, 0), (7, 0), (8, 0)] rfl rfl rfl ?_
      have B36 := (Bx.kz (Bx.md (Bx.gr (Bx.gr B27 Gw11) Gw12) Mw13) Kw14)
      refine sd_vv rfl rfl rfl (vv_loadW agg_45 rfl B36 rfl) ?_
      have B37 := (Bx.kz (Bx.md (Bx.gr (Bx.gr (Bx.md (Bx.gr (Bx.gr Bw7 Gw8) Gw9) Mw10) Gw11) Gw12) Mw13) Kw14)
      refine sd_vv rfl rfl rfl (vv_loadW agg_74 rfl B37 rfl) ?_
      have B38 := (Bx.kz (Bx.md (Bx.gr (Bx.gr B28 Gw11) Gw12) Mw13) Kw14)
      refine sd_vv rfl rfl rfl (vv_loadW agg_47 rfl B38 rfl) ?_
      have B39 := (Own.kz (Own.md (Own.gr (Own.gr (Own.md (Own.gr (Own.gr (Own.md B17 Mw7 (tk1 ((pv_lt (A := (fun x => x ≠ b6)) lt14) : z5_r0_1 = 0 ∨ g5_r0_1 ≠ b6))) Gw8) Gw9) Mw10 (tk1 ((pv_lt (A := (fun x => x ≠ b9)) lt14) : z5_r0_1 = 0 ∨ g5_r0_1 ≠ b9))) Gw11) Gw12) Mw13 (tk1 ((pv_lt (A := (fun x => x ≠ b12)) lt14) : z5_r0_1 = 0 ∨ g5_r0_1 ≠ b12))) Kw14)
      have hb := bnd hm; clear hm; obtain ⟨x5, hx5, hm⟩ := hb
      refine sd_ev rfl rfl rfl (ev_call en_48 rfl (cover_Find_w p1 x1 p3 _ _ _ _ _ hx5 _ (Own.rd B39))) ?_
      rintro _ w15 ⟨rfl, Gw15⟩
      have z40 := Gw15.size
      refine sd_vv rfl rfl rfl (vv_move rfl) ?_
      refine sd_vv rfl rfl rfl (vv_extract rfl rfl) ?_
      refine sd_vv rfl rfl rfl (vv_extract rfl rfl) ?_
      have B41 := (Bx.gr (Bx.kz (Bx.md (Bx.gr (Bx.gr Bw10 Gw11) Gw12) Mw13) Kw14) Gw15)
      refine sd_ev rfl rfl rfl (ev_stM (cs' := kb x5.1) (vs := kb x5.1) (agg_26).siz rfl rfl rfl rfl rfl B41 rfl rfl) ?_
      rintro _ w16 ⟨Bw16, Mw16⟩
      have z42 := Mw16.size
      refine sd_vv rfl rfl rfl (vv_assign rfl) ?_
      refine sd_done ?_
      refine sw_seq ?_
      -- region 7 law.go:60
      refine sw_region [(0, 0), (1, 0), (2, 0), (3, 0), (4, 0), (5, 0), (6, 0), (7, 0), (8, 0)] rfl rfl rfl ?_
      have B43 := (Bx.md (Bx.gr B36 Gw15) Mw16)
      refine sd_vv rfl rfl rfl (vv_loadW agg_45 rfl B43 rfl) ?_
      have B44 := (Bx.md (Bx.gr (Bx.kz (Bx.md (Bx.gr (Bx.gr (Bx.md (Bx.gr (Bx.gr (Bx.md (Bx.gr (Bx.gr B11 Gw5) Gw6) Mw7) Gw8) Gw9) Mw10) Gw11) Gw12) Mw13) Kw14) Gw15) Mw16)
      refine sd_vv rfl rfl rfl (vv_loadW agg_74 rfl B44 rfl) ?_
      have B45 := (Bx.md (Bx.gr B38 Gw15) Mw16)
      refine sd_vv rfl rfl rfl (vv_loadW agg_47 rfl B45 rfl) ?_
      have B46 := (Rd.md (Rd.gr (Rd.kz (Rd.md (Rd.gr (Rd.gr (Rd.md (Rd.gr (Rd.gr (Rd.md (Rd.gr (Rd.gr B12 Gw5) Gw6) Mw7 (tk1 ((pv_lt (A := (fun x => x ≠ b6)) lt1) : zp2_1 = 0 ∨ gp2_1 ≠ b6))) Gw8) Gw9) Mw10 (tk1 ((pv_lt (A := (fun x => x ≠ b9)) lt1) : zp2_1 = 0 ∨ gp2_1 ≠ b9))) Gw11) Gw12) Mw13 (tk1 ((pv_lt (A := (fun x => x ≠ b12)) lt1) : zp2_1 = 0 ∨ gp2_1 ≠ b12))) Kw14) Gw15) Mw16 (tk1 ((pv_lt (A := (fun x => x ≠ b9)) lt1) : zp2_1 = 0 ∨ gp2_1 ≠ b9)))
      have hb := bnd hm; clear hm; obtain ⟨x6, hx6, hm⟩ := hb
      refine sd_ev rfl rfl rfl (ev_call en_49 rfl (ref03_Find_w p1 p2 p3 _ _ _ _ _ hx6 _ B46)) ?_
      rintro _ w17 ⟨rfl, Gw17⟩
      have z47 := Gw17.size
      refine sd_vv rfl rfl rfl (vv_move rfl) ?_
      refine sd_vv rfl rfl rfl (vv_extract rfl rfl) ?_
      refine sd_vv rfl rfl rfl (vv_extract rfl rfl) ?_
      have B48 := (Bx.gr (Bx.md (Bx.gr (Bx.kz Bw13 Kw14) Gw15) Mw16) Gw17)
      refine sd_ev rfl rfl rfl (ev_stM (cs' := kb x6.1) (vs := kb x6.1) (agg_26).siz rfl rfl rfl rfl rfl B48 rfl rfl) ?_
      rintro _ w18 ⟨Bw18, Mw18⟩
      have z49 := Mw18.size
      refine sd_vv rfl rfl rfl (vv_assign rfl) ?_
      refine sd_done ?_
      refine sw_seq ?_
      have X50 : Gr w w18 := (Gr.md (Gr.trans (Gr.md (Gr.trans (Gr.kz X33 Kw14) Gw15) Mw16) Gw17) Mw18)
      refine sw_joinD (β := Bool) [15, 17, 60, 61, 62, 63, 64, 65, 66, 67, 68, 69, 70, 71, 72, 73] (fun a7 => [(15, .int .i64 x5.2), (17, .int .i64 x6.2), (73, .bool a7)]) (fun a7 wr => (law03_CoverKeys_J2 p1 p3 p4 p5 a7 = some r) ∧ Kz [] w18 wr) ?_ ?_
      · clear hm; rintro a7 w19 ⟨hm, Kw19⟩
        have z51 := Kw19.size
        unfold law03_CoverKeys_J2 at hm
        refine sw_cond rfl (fun c2 => ?_) (fun c2 => ?_)
        ·
          replace hm := cnd_t c2 hm
          refine sw_seq ?_
          -- region 9 law.go:62
          refine sw_region [(0, 0)] rfl rfl rfl ?_
          refine sd_vv rfl rfl rfl (vv_assign rfl) ?_
          refine sd_done ?_
          refine sw_ret ?_
          refine then_r ?_
          have X52 : Gr w w19 := (Gr.kz X50 Kw19)
          have hr := Option.some.inj hm
          subst hr
          refine ⟨_, _, rfl, res_1 rfl (rv_tmp rfl), ?_⟩
          exact ⟨rfl, X52⟩
        ·
          replace hm := cnd_f c2 hm
          refine sw_skip ?_
          refine then_n ?_
          refine sw_seq ?_
          -- region 10 law.go:64
          refine sw_region [(0, 0), (1, 0), (2, 0), (3, 0), (4, 0), (5, 0), (6, 0), (7, 0), (8, 0)] rfl rfl rfl ?_
          have B53 := (Bx.kz (Bx.md (Bx.gr B43 Gw17) Mw18) Kw19)
          refine sd_vv rfl rfl rfl (vv_loadW agg_45 rfl B53 rfl) ?_
          refine sd_vv rfl rfl rfl (vv_move rfl) ?_
          have B54 := (Bx.kz (Bx.md (Bx.gr B45 Gw17) Mw18) Kw19)
          refine sd_vv rfl rfl rfl (vv_loadW agg_47 rfl B54 rfl) ?_
          have hb := bnd hm; clear hm; obtain ⟨x8, hx8, hm⟩ := hb
          refine sd_ev rfl rfl rfl (ev_call en_50 rfl (cover_Work_w p1 p4 p3 _ hx8 _)) ?_
          rintro _ w20 ⟨rfl, Gw20⟩
          have z55 := Gw20.size
          refine sd_vv rfl rfl rfl (vv_move rfl) ?_
          refine sd_vv rfl rfl rfl (vv_extract rfl rfl) ?_
          refine sd_vv rfl rfl rfl (vv_extract rfl rfl) ?_
          refine sd_vv rfl rfl rfl (vv_assign rfl) ?_
          refine sd_vv rfl rfl rfl (vv_assign rfl) ?_
          refine sd_done ?_
          refine sw_seq ?_
          -- region 11 law.go:65
          refine sw_region [(0, 0), (1, 0), (2, 0), (3, 0), (4, 0), (5, 0), (6, 0), (7, 0), (8, 0)] rfl rfl rfl ?_
          have B56 := (Bx.gr B53 Gw20)
          refine sd_vv rfl rfl rfl (vv_loadW agg_45 rfl B56 rfl) ?_
          refine sd_vv rfl rfl rfl (vv_move rfl) ?_
          have B57 := (Bx.gr B54 Gw20)
          refine sd_vv rfl rfl rfl (vv_loadW agg_47 rfl B57 rfl) ?_
          have hb := bnd hm; clear hm; obtain ⟨x9, hx9, hm⟩ := hb
          refine sd_ev rfl rfl rfl (ev_call en_51 rfl (ref03_Work_w p1 p4 p3 _ hx9 _)) ?_
          rintro _ w21 ⟨rfl, Gw21⟩
          have z58 := Gw21.size
          refine sd_vv rfl rfl rfl (vv_move rfl) ?_
          refine sd_vv rfl rfl rfl (vv_extract rfl rfl) ?_
          refine sd_vv rfl rfl rfl (vv_extract rfl rfl) ?_
          refine sd_vv rfl rfl rfl (vv_assign rfl) ?_
          refine sd_vv rfl rfl rfl (vv_assign rfl) ?_
          refine sd_done ?_
          refine sw_seq ?_
          have X59 : Gr w w21 := (Gr.trans (Gr.trans (Gr.kz X50 Kw19) Gw20) Gw21)
          refine sw_joinD (β := Bool) [15, 17, 88, 89, 90, 91, 92, 93, 94, 95] (fun a10 => [(15, .int .i64 x8.2), (17, .int .i64 x9.2), (95, .bool a10)]) (fun a10 wr => (law03_CoverKeys_J3 p1 p3 p5 a10 = some r) ∧ Kz [] w21 wr) ?_ ?_
          · clear hm; rintro a10 w22 ⟨hm, Kw22⟩
            have z60 := Kw22.size
            unfold law03_CoverKeys_J3 at hm
            refine sw_cond rfl (fun c3 => ?_) (fun c3 => ?_)
            ·
              replace hm := cnd_t c3 hm
              refine sw_seq ?_
              -- region 13 law.go:67
              refine sw_region [(0, 0)] rfl rfl rfl ?_
              refine sd_vv rfl rfl rfl (vv_assign rfl) ?_
              refine sd_done ?_
              refine sw_ret ?_
              refine then_r ?_
              have X61 : Gr w w22 := (Gr.kz X59 Kw22)
              have hr := Option.some.inj hm
              subst hr
              refine ⟨_, _, rfl, res_1 rfl (rv_tmp rfl), ?_⟩
              exact ⟨rfl, X61⟩
            ·
              replace hm := cnd_f c3 hm
              refine sw_skip ?_
              refine then_n ?_
              refine sw_seq ?_
              -- region 14 law.go:69
              refine sw_region [(0, 0), (1, 0), (2, 0), (3, 0), (4, 0), (5, 0), (6, 0), (7, 0), (8, 0)] rfl rfl rfl ?_
              have B62 := (Bx.kz (Bx.gr B56 Gw21) Kw22)
              refine sd_vv rfl rfl rfl (vv_loadW agg_45 rfl B62 rfl) ?_
              refine sd_vv rfl rfl rfl (vv_move rfl) ?_
              have B63 := (Bx.kz (Bx.gr B57 Gw21) Kw22)
              refine sd_vv rfl rfl rfl (vv_loadW agg_47 rfl B63 rfl) ?_
              have B64 := (Rd.kz (Rd.gr (Rd.gr (Rd.kz (Rd.md (Rd.gr (Rd.md (Rd.gr (Rd.kz (Rd.md (Rd.gr (Rd.gr (Rd.md (Rd.gr (Rd.gr (Rd.md (Rd.gr (Rd.gr (Rd.gr (Rd.gr (Rd.gr (Rd.gr hp5 Gw1) Gw2) Gw3) Gw4) Gw5) Gw6) Mw7 (tk1 ((pv_lt (A := (fun x => x ≠ b6)) lt2) : zp5 = 0 ∨ gp5 ≠ b6))) Gw8) Gw9) Mw10 (tk1 ((pv_lt (A := (fun x => x ≠ b9)) lt2) : zp5 = 0 ∨ gp5 ≠ b9))) Gw11) Gw12) Mw13 (tk1 ((pv_lt (A := (fun x => x ≠ b12)) lt2) : zp5 = 0 ∨ gp5 ≠ b12))) Kw14) Gw15) Mw16 (tk1 ((pv_lt (A := (fun x => x ≠ b9)) lt2) : zp5 = 0 ∨ gp5 ≠ b9))) Gw17) Mw18 (tk1 ((pv_lt (A := (fun x => x ≠ b12)) lt2) : zp5 = 0 ∨ gp5 ≠ b12))) Kw19) Gw20) Gw21) Kw22)
              have hb := bnd hm; clear hm; obtain ⟨x11, hx11, hm⟩ := hb
              refine sd_ev rfl rfl rfl (ev_call en_52 rfl (cover_Knows_w p1 p5 p3 _ _ _ _ _ hx11 _ B64)) ?_
              rintro _ w23 ⟨rfl, Gw23⟩
              have z65 := Gw23.size
              refine sd_vv rfl rfl rfl (vv_move rfl) ?_
              refine sd_vv rfl rfl rfl (vv_extract rfl rfl) ?_
              refine sd_vv rfl rfl rfl (vv_extract rfl rfl) ?_
              refine sd_vv rfl rfl rfl (vv_assign rfl) ?_
              refine sd_vv rfl rfl rfl (vv_assign rfl) ?_
              refine sd_done ?_
              refine sw_seq ?_
              -- region 15 law.go:70
              refine sw_region [(0, 0), (1, 0), (2, 0), (3, 0), (4, 0), (5, 0), (6, 0), (7, 0), (8, 0)] rfl rfl rfl ?_
              have B66 := (Bx.gr B62 Gw23)
              refine sd_vv rfl rfl rfl (vv_loadW agg_45 rfl B66 rfl) ?_
              refine sd_vv rfl rfl rfl (vv_move rfl) ?_
              have B67 := (Bx.gr B63 Gw23)
              refine sd_vv rfl rfl rfl (vv_loadW agg_47 rfl B67 rfl) ?_
              have B68 := (Rd.gr B64 Gw23)
              have hb := bnd hm; clear hm; obtain ⟨x12, hx12, hm⟩ := hb
              refine sd_ev rfl rfl rfl (ev_call en_53 rfl (ref03_Knows_w p1 p5 p3 _ _ _ _ _ hx12 _ B68)) ?_
              rintro _ w24 ⟨rfl, Gw24⟩
              have z69 := Gw24.size
              refine sd_vv rfl rfl rfl (vv_move rfl) ?_
              refine sd_vv rfl rfl rfl (vv_extract rfl rfl) ?_
              refine sd_vv rfl rfl rfl (vv_extract rfl rfl) ?_
              refine sd_vv rfl rfl rfl (vv_assign rfl) ?_
              refine sd_vv rfl rfl rfl (vv_assign rfl) ?_
              refine sd_done ?_
              refine sw_seq ?_
              -- region 16 law.go:71
              refine sw_region [(0, 0), (1, 0), (2, 0), (3, 0), (4, 0), (5, 0), (6, 0), (7, 0), (8, 0)] rfl rfl rfl ?_
              refine sd_vv rfl rfl rfl (vv_move rfl) ?_
              refine sd_vv rfl rfl rfl (vv_move rfl) ?_
              refine sd_vv rfl rfl rfl (vv_eqlL Try.underlying4 rfl rfl) ?_
              refine sd_split rfl rfl rfl (vv_move rfl) (fun c4 => ?_) (fun c4 => ?_)
              ·
                replace hm := cnd_t c4 hm
                refine sd_vv rfl rfl rfl (vv_move rfl) ?_
                refine sd_vv rfl rfl rfl (vv_move rfl) ?_
                refine sd_vv rfl rfl rfl (vv_eql (a := x11.2) (b := x12.2) rfl rfl) ?_
                refine sd_vv rfl rfl rfl (vv_pickT rfl rfl) ?_
                refine sd_vv rfl rfl rfl (vv_assign rfl) ?_
                refine sd_done ?_
                refine sw_ret ?_
                have X70 : Gr w w24 := (Gr.trans (Gr.trans (Gr.kz X59 Kw22) Gw23) Gw24)
                have hr := Option.some.inj hm
                subst hr
                refine ⟨_, _, rfl, res_1 rfl (rv_tmp rfl), ?_⟩
                exact ⟨rfl, X70⟩
              ·
                replace hm := cnd_f c4 hm
                refine sd_skip rfl rfl rfl ?_
                refine sd_skip rfl rfl rfl ?_
                refine sd_skip rfl rfl rfl ?_
                refine sd_vv rfl rfl rfl (vv_pickF rfl rfl) ?_
                refine sd_vv rfl rfl rfl (vv_assign rfl) ?_
                refine sd_done ?_
                refine sw_ret ?_
                have X71 : Gr w w24 := (Gr.trans (Gr.trans (Gr.kz X59 Kw22) Gw23) Gw24)
                have hr := Option.some.inj hm
                subst hr
                refine ⟨_, _, rfl, res_1 rfl (rv_tmp rfl), ?_⟩
                exact ⟨rfl, X71⟩
          ·
            -- region 12 law.go:66
            refine sw_region [(0, 0), (1, 0), (2, 0), (3, 0), (4, 0), (5, 0), (6, 0), (7, 0)] rfl rfl rfl ?_
            refine sd_vv rfl rfl rfl (vv_move rfl) ?_
            refine sd_vv rfl rfl rfl (vv_move rfl) ?_
            refine sd_vv rfl rfl rfl (vv_neq (a := x8.1) (b := x9.1) rfl rfl) ?_
            refine sd_split rfl rfl rfl (vv_move rfl) (fun c5 => ?_) (fun c5 => ?_)
            ·
              replace hm := ite_t (of_decide_eq_true c5) hm
              refine sd_skip rfl rfl rfl ?_
              refine sd_skip rfl rfl rfl ?_
              refine sd_skip rfl rfl rfl ?_
              refine sd_vv rfl rfl rfl (vv_pickT rfl rfl) ?_
              refine sd_nil ?_
              have K_72 : Kz [] w21 w21 := (Kz.refl _ _)
              refine ⟨rfl, true, ?_, hm, K_72⟩
              repeat' first | exact trivial | refine ⟨rfl, ?_⟩
            ·
              replace hm := ite_f (of_decide_eq_false c5) hm
              refine sd_vv rfl rfl rfl (vv_move rfl) ?_
              refine sd_vv rfl rfl rfl (vv_move rfl) ?_
              refine sd_vv rfl rfl rfl (vv_neq (a := x8.2) (b := x9.2) rfl rfl) ?_
              refine sd_vv rfl rfl rfl (vv_pickF rfl rfl) ?_
              refine sd_nil ?_
              have K_73 : Kz [] w21 w21 := (Kz.refl _ _)
              refine ⟨rfl, (decide (x8.2 ≠ x9.2)), ?_, hm, K_73⟩
              repeat' first | exact trivial | refine ⟨rfl, ?_⟩
      ·
        -- region 8 law.go:61
        refine sw_region [(0, 0), (1, 0), (2, 0), (3, 0), (4, 0), (5, 0), (6, 0), (7, 0), (8, 0), (9, 0), (10, 0), (11, 0), (12, 0), (13, 0)] rfl rfl rfl ?_
        have B74 := (Bx.md (Bx.gr Bw16 Gw17) Mw18)
        refine sd_vv rfl rfl rfl (vv_loadW agg_26 rfl B74 rfl) ?_
        refine sd_vv rfl rfl rfl (vv_loadW agg_26 rfl Bw18 rfl) ?_
        refine sd_vv rfl rfl rfl (vv_neqS (cf := kb) (a := x5.1) (b := x6.1) eqt_26 rfl rfl rfl rfl (fun h => kb_inj h)) ?_
        refine sd_split rfl rfl rfl (vv_move rfl) (fun c6 => ?_) (fun c6 => ?_)
        ·
          replace hm := ite_t (of_decide_eq_true c6) hm
          refine sd_skip rfl rfl rfl ?_
          refine sd_skip rfl rfl rfl ?_
          refine sd_skip rfl rfl rfl ?_
          refine sd_vv rfl rfl rfl (vv_pickT rfl rfl) ?_
          refine sd_vv rfl rfl rfl (vv_move rfl) ?_
          refine sd_skip rfl rfl rfl ?_
          refine sd_skip rfl rfl rfl ?_
          refine sd_skip rfl rfl rfl ?_
          refine sd_skip rfl rfl rfl ?_
          refine sd_vv rfl rfl rfl (vv_pickT rfl rfl) ?_
          refine sd_nil ?_
          have K_75 : Kz [] w18 w18 := (Kz.refl _ _)
          refine ⟨rfl, true, ?_, hm, K_75⟩
          repeat' first | exact trivial | refine ⟨rfl, ?_⟩
        ·
          replace hm := ite_f (of_decide_eq_false c6) hm
          refine sd_vv rfl rfl rfl (vv_move rfl) ?_
          refine sd_vv rfl rfl rfl (vv_move rfl) ?_
          refine sd_vv rfl rfl rfl (vv_neq (a := x5.2) (b := x6.2) rfl rfl) ?_
          refine sd_vv rfl rfl rfl (vv_pickF rfl rfl) ?_
          refine sd_split rfl rfl rfl (vv_move rfl) (fun c7 => ?_) (fun c7 => ?_)
          ·
            replace hm := ite_t (of_decide_eq_true c7) hm
            refine sd_skip rfl rfl rfl ?_
            refine sd_skip rfl rfl rfl ?_
            refine sd_skip rfl rfl rfl ?_
            refine sd_skip rfl rfl rfl ?_
            refine sd_vv rfl rfl rfl (vv_pickT rfl rfl) ?_
            refine sd_nil ?_
            have K_76 : Kz [] w18 w18 := (Kz.refl _ _)
            refine ⟨rfl, true, ?_, hm, K_76⟩
            repeat' first | exact trivial | refine ⟨rfl, ?_⟩
          ·
            replace hm := ite_f (of_decide_eq_false c7) hm
            have B77 := (Bx.md (Bx.gr (Bx.md (Bx.gr B37 Gw15) Mw16) Gw17) Mw18)
            refine sd_vv rfl rfl rfl (vv_loadW agg_74 rfl B77 rfl) ?_
            have B78 := (Bx.md (Bx.gr B44 Gw17) Mw18)
            refine sd_vv rfl rfl rfl (vv_loadW agg_74 rfl B78 rfl) ?_
            have B79 := (Own.md (Own.gr (Own.md (Own.gr B39 Gw15) Mw16 (tk1 ((pv_lt (A := (fun x => x ≠ b9)) lt14) : z5_r0_1 = 0 ∨ g5_r0_1 ≠ b9))) Gw17) Mw18 (tk1 ((pv_lt (A := (fun x => x ≠ b12)) lt14) : z5_r0_1 = 0 ∨ g5_r0_1 ≠ b12)))
            have B80 := (Rd.md (Rd.gr B46 Gw17) Mw18 (tk1 ((pv_lt (A := (fun x => x ≠ b12)) lt1) : zp2_1 = 0 ∨ gp2_1 ≠ b12)))
            have hb := bnd hm; clear hm; obtain ⟨x13, hx13, hm⟩ := hb
            refine sd_ev rfl rfl rfl (ev_call en_42 rfl (ref03_SameSecret_w x1 p2 _ _ _ _ _ _ _ _ _ hx13 _ (Own.rd B79) B80)) ?_
            rintro _ w25 ⟨rfl, Gw25⟩
            have z81 := Gw25.size
            refine sd_vv rfl rfl rfl (vv_not rfl) ?_
            refine sd_vv rfl rfl rfl (vv_pickF rfl rfl) ?_
            refine sd_nil ?_
            have K_82 : Kz [] w18 w25 := (Kz.gr (Kz.refl _ _) Gw25)
            refine ⟨rfl, (!x13), ?_, hm, K_82⟩
            repeat' first | exact trivial | refine ⟨rfl, ?_⟩
  ·
    -- region 4 law.go:56
    refine sw_region [(0, 0), (1, 0), (2, 0), (3, 0), (4, 0), (5, 0), (6, 0), (7, 0)] rfl rfl rfl ?_
    have B83 := (Bx.md (Bx.gr (Bx.gr Bw10 Gw11) Gw12) Mw13)
    refine sd_vv rfl rfl rfl (vv_loadW agg_26 rfl B83 rfl) ?_
    refine sd_vv rfl rfl rfl (vv_loadW agg_26 rfl Bw13 rfl) ?_
    refine sd_vv rfl rfl rfl (vv_neqS (cf := kb) (a := x2.1) (b := x3.1) eqt_26 rfl rfl rfl rfl (fun h => kb_inj h)) ?_
    refine sd_split rfl rfl rfl (vv_move rfl) (fun c8 => ?_) (fun c8 => ?_)
    ·
      replace hm := ite_t (of_decide_eq_true c8) hm
      refine sd_skip rfl rfl rfl ?_
      refine sd_skip rfl rfl rfl ?_
      refine sd_skip rfl rfl rfl ?_
      refine sd_vv rfl rfl rfl (vv_pickT rfl rfl) ?_
      refine sd_nil ?_
      have K_84 : Kz [] w13 w13 := (Kz.refl _ _)
      refine ⟨rfl, true, ?_, hm, K_84⟩
      repeat' first | exact trivial | refine ⟨rfl, ?_⟩
    ·
      replace hm := ite_f (of_decide_eq_false c8) hm
      refine sd_vv rfl rfl rfl (vv_move rfl) ?_
      refine sd_vv rfl rfl rfl (vv_move rfl) ?_
      refine sd_vv rfl rfl rfl (vv_neq (a := x2.2) (b := x3.2) rfl rfl) ?_
      refine sd_vv rfl rfl rfl (vv_pickF rfl rfl) ?_
      refine sd_nil ?_
      have K_85 : Kz [] w13 w13 := (Kz.refl _ _)
      refine ⟨rfl, (decide (x2.2 ≠ x3.2)), ?_, hm, K_85⟩
      repeat' first | exact trivial | refine ⟨rfl, ?_⟩
end Go.Proofs.Ytecempahccgijaa.Mx
