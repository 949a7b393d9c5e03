/- Walks that follow mirrors: Hb. Printed by mx.py. -/
import Derived.Test.YtecempahccgijaaOHb
import Derived.Test.YtecempahccgijaaHbM
set_option linter.unusedVariables false
set_option linter.unusedSimpArgs false
set_option maxRecDepth 100000
namespace Go.Proofs.Ytecempahccgijaa.Mx
open Go Go.RowKit Go.Sx
theorem en_56 : En Try.prog 56 := fun _ _ => by kernel_rfl
theorem en_26 : En Try.prog 26 := fun _ _ => by kernel_rfl
theorem en_25 : En Try.prog 25 := fun _ _ => by kernel_rfl

set_option maxHeartbeats 2000000 in
theorem law03_CoverHeaderBack_w (p0 : THeader) (p1 : List (BitVec 8)) (p2 : Int) (vp0_0 : Value) (zp0_0 gp0_0 op0_0 : Nat) (vp0_2 : Value) (zp0_2 gp0_2 op0_2 : Nat) (vp1 : Value) (zp1 gp1 op1 : Nat) (r : Bool) (hm : law03_CoverHeaderBack p0 p1 p2 = some r) (w : World) (hp0_0 : Rd w zp0_0 gp0_0 op0_0 18 vp0_0 (p0.Items.map TItem.cs)) (hp0_2 : Rd w zp0_2 gp0_2 op0_2 2 vp0_2 (p0.Points.map TPoint.cs)) (hp1 : Rd w zp1 gp1 op1 1 vp1 (p1.map bvc))  :
    Calls Try.prog 20 [.agg (THeader.cs p0 vp0_0 vp0_2).toArray, vp1, .int .i64 p2].toArray w fun e w' => ∃ v, e = .returned v ∧ (v = .bool r ∧ Gr w w') := by
  have lt1 := hp0_0.lth
  have lt2 := hp0_2.lth
  have lt3 := hp1.lth
  unfold law03_CoverHeaderBack at hm
  refine calls_of_sw (R := fun v w' => v = .bool r ∧ Gr w w') 118 Try.func20 rfl rfl rfl ?_
  refine sw_seq ?_
  -- region 0 outright.go:349
  refine sw_region [(0, 0), (1, 0)] rfl rfl rfl ?_
  refine sd_ev rfl rfl rfl (ev_box (cs := THeader.cs p0 vp0_0 vp0_2) rfl rfl) ?_
  rintro _ w1 ⟨b1, rfl, hbw1, Bw1, Gw1⟩
  have z4 := Gw1.size
  have lt5 := Bw1.lt
  refine sd_vv rfl rfl rfl (vv_assign rfl) ?_
  refine sd_done ?_
  refine sw_seq ?_
  -- region 1 outright.go:350
  refine sw_region [(0, 0), (1, 0)] rfl rfl rfl ?_
  have hb := bnd hm; clear hm; obtain ⟨x1, hx1, hm⟩ := hb
  refine sd_ev rfl rfl rfl (ev_call en_56 rfl (law03_alive_w _ hx1 _)) ?_
  rintro _ w2 ⟨rfl, Gw2⟩
  have z6 := Gw2.size
  refine sd_vv rfl rfl rfl (vv_assign rfl) ?_
  refine sd_done ?_
  refine sw_seq ?_
  -- region 2 outright.go:351
  refine sw_region [(0, 0), (1, 0), (2, 0), (3, 0), (4, 0), (5, 0), (6, 0)] rfl rfl rfl ?_
  have B7 := (Bx.gr Bw1 Gw2)
  refine sd_vv rfl rfl rfl (vv_loadW agg_28 rfl B7 rfl) ?_
  have B8 := (Rd.gr (Rd.gr hp0_0 Gw1) Gw2)
  have B9 := (Rd.gr (Rd.gr hp0_2 Gw1) Gw2)
  have hb := bnd hm; clear hm; obtain ⟨x2, hx2, hm⟩ := hb
  refine sd_ev rfl rfl rfl (ev_call en_23 rfl (cover_Encode_w p0 _ _ _ _ _ _ _ _ _ hx2 _ B8 B9)) ?_
  rintro _ w3 ⟨u3_r0_s, z3_r0_s, g3_r0_s, rfl, O3_r0_s, f3_r0_s, Gw3⟩
  have z10 := Gw3.size
  have lt11 := O3_r0_s.lth
  refine sd_vv rfl rfl rfl (vv_move rfl) ?_
  refine sd_vv rfl rfl rfl (vv_extract rfl rfl) ?_
  refine sd_vv rfl rfl rfl (vv_extract rfl rfl) ?_
  refine sd_vv rfl rfl rfl (vv_assign rfl) ?_
  refine sd_vv rfl rfl rfl (vv_assign rfl) ?_
  refine sd_done ?_
  have X12 : Gr w w3 := (Gr.trans (Gr.trans (Gr.trans (Gr.refl w) Gw1) Gw2) Gw3)
  refine sw_joinD (β := Unit) [6, 10, 11, 12, 13, 24, 25, 26, 27, 28, 29, 30, 31, 32, 33, 34, 35, 36, 37, 38, 39, 40, 41, 42, 43, 44, 45, 46, 47, 48, 49, 50, 51, 52, 53, 54, 55, 56, 57, 58, 59, 60, 61, 62, 63, 64, 65, 66, 67, 68, 69, 70, 71, 72, 73, 74, 75, 76, 77, 78, 79, 80, 81, 82, 83, 84, 85, 86, 87, 88] (fun _ => [(6, .bool false)]) (fun _ wr => (law03_CoverHeaderBack_J1 p1 x1 = some r) ∧ Kz [] w3 wr) ?_ ?_
  · clear hm; rintro _ w4 ⟨hm, Kw4⟩
    have z13 := Kw4.size
    unfold law03_CoverHeaderBack_J1 at hm
    refine sw_seq ?_
    -- region 13 outright.go:366
    refine sw_region [(0, 0), (1, 0), (2, 0), (3, 0), (4, 0), (5, 0), (6, 0), (7, 0)] rfl rfl rfl ?_
    refine sd_vv rfl rfl rfl (vv_move rfl) ?_
    have B14 := (Rd.kz (Rd.gr (Rd.gr (Rd.gr hp1 Gw1) Gw2) Gw3) Kw4)
    have hb := bnd hm; clear hm; obtain ⟨x3, hx3, hm⟩ := hb
    refine sd_ev rfl rfl rfl (ev_call en_26 rfl (cover_Decode_w p1 _ _ _ _ _ hx3 _ B14)) ?_
    rintro _ w5 ⟨u5_r0_0, z5_r0_0, g5_r0_0, u5_r0_2, z5_r0_2, g5_r0_2, rfl, O5_r0_0, f5_r0_0, O5_r0_2, f5_r0_2, d5_0, Gw5⟩
    have z15 := Gw5.size
    have lt16 := O5_r0_0.lth
    have lt17 := O5_r0_2.lth
    refine sd_vv rfl rfl rfl (vv_move rfl) ?_
    refine sd_vv rfl rfl rfl (vv_extract rfl rfl) ?_
    refine sd_vv rfl rfl rfl (vv_extract rfl rfl) ?_
    refine sd_ev rfl rfl rfl (ev_alloc (cs := THeader.cs (THeader.mk [] 0#64 [] k0 k0) (.slice none 0 0) (.slice none 0 0)) zv_28 rfl) ?_
    rintro _ w6 ⟨b6, rfl, hbw6, Bw6, Gw6⟩
    have z18 := Gw6.size
    have lt19 := Bw6.lt
    have B20 := (Own.gr O5_r0_0 Gw6)
    have B21 := (Own.gr O5_r0_2 Gw6)
    refine sd_ev rfl rfl rfl (ev_stM (cs' := THeader.cs x3.1 u5_r0_0 u5_r0_2) (vs := THeader.cs x3.1 u5_r0_0 u5_r0_2) (agg_28).siz rfl rfl rfl rfl (THeader.cs_ones _ _ _ (Own.oneB B20) (Own.oneB B21)) Bw6 rfl rfl) ?_
    rintro _ w7 ⟨Bw7, Mw7⟩
    have z22 := Mw7.size
    refine sd_vv rfl rfl rfl (vv_assign rfl) ?_
    refine sd_done ?_
    refine sw_seq ?_
    refine sw_seq ?_
    -- region 14 outright.go:367
    refine sw_region [(0, 0), (1, 0)] rfl rfl rfl ?_
    refine sd_vv rfl rfl rfl (vv_move rfl) ?_
    refine sd_vv rfl rfl rfl (vv_neq (a := x3.2) (b := 0) rfl rfl) ?_
    refine sd_done ?_
    refine sw_cond rfl (fun c1 => ?_) (fun c1 => ?_)
    ·
      replace hm := ite_t (of_decide_eq_true c1) hm
      refine sw_seq ?_
      -- region 15 outright.go:368
      refine sw_region [(0, 0), (1, 0), (2, 0), (3, 0), (4, 0), (5, 0)] rfl rfl rfl ?_
      refine sd_vv rfl rfl rfl (vv_move rfl) ?_
      refine sd_split rfl rfl rfl (vv_move rfl) (fun c2 => ?_) (fun c2 => ?_)
      ·
        replace hm := cnd_t c2 hm
        refine sd_vv rfl rfl rfl (vv_move rfl) ?_
        refine sd_vv rfl rfl rfl (vv_eql (a := x3.2) (b := 12) rfl rfl) ?_
        refine sd_vv rfl rfl rfl (vv_pickT rfl rfl) ?_
        refine sd_vv rfl rfl rfl (vv_assign rfl) ?_
        refine sd_done ?_
        refine sw_ret ?_
        refine then_r ?_
        have X23 : Gr w w7 := (Gr.md (Gr.trans (Gr.trans (Gr.kz X12 Kw4) Gw5) Gw6) Mw7)
        have hr := Option.some.inj hm
        subst hr
        refine ⟨_, _, rfl, res_1 rfl (rv_tmp rfl), ?_⟩
        exact ⟨rfl, X23⟩
      ·
        replace hm := cnd_f c2 hm
        refine sd_skip rfl rfl rfl ?_
        refine sd_skip rfl rfl rfl ?_
        refine sd_vv rfl rfl rfl (vv_pickF rfl rfl) ?_
        refine sd_vv rfl rfl rfl (vv_assign rfl) ?_
        refine sd_done ?_
        refine sw_ret ?_
        refine then_r ?_
        have X24 : Gr w w7 := (Gr.md (Gr.trans (Gr.trans (Gr.kz X12 Kw4) Gw5) Gw6) Mw7)
        have hr := Option.some.inj hm
        subst hr
        refine ⟨_, _, rfl, res_1 rfl (rv_tmp rfl), ?_⟩
        exact ⟨rfl, X24⟩
    ·
      replace hm := ite_f (of_decide_eq_false c1) hm
      refine sw_skip ?_
      refine then_n ?_
      refine sw_seq ?_
      -- region 16 outright.go:370
      refine sw_region [(0, 0), (1, 0), (2, 0), (3, 0), (4, 0), (5, 0), (6, 0)] rfl rfl rfl ?_
      refine sd_vv rfl rfl rfl (vv_loadW agg_28 rfl Bw7 rfl) ?_
      have B25 := (Own.md B20 Mw7 (tk1 ((pv_lt (A := (fun x => x ≠ b6)) lt16) : z5_r0_0 = 0 ∨ g5_r0_0 ≠ b6)))
      have B26 := (Own.md B21 Mw7 (tk1 ((pv_lt (A := (fun x => x ≠ b6)) lt17) : z5_r0_2 = 0 ∨ g5_r0_2 ≠ b6)))
      have hb := bnd hm; clear hm; obtain ⟨x4, hx4, hm⟩ := hb
      refine sd_ev rfl rfl rfl (ev_call en_23 rfl (cover_Encode_w x3.1 _ _ _ _ _ _ _ _ _ hx4 _ (Own.rd B25) (Own.rd B26))) ?_
      rintro _ w8 ⟨u8_r0_s, z8_r0_s, g8_r0_s, rfl, O8_r0_s, f8_r0_s, Gw8⟩
      have z27 := Gw8.size
      have lt28 := O8_r0_s.lth
      refine sd_vv rfl rfl rfl (vv_move rfl) ?_
      refine sd_vv rfl rfl rfl (vv_extract rfl rfl) ?_
      refine sd_vv rfl rfl rfl (vv_extract rfl rfl) ?_
      refine sd_vv rfl rfl rfl (vv_assign rfl) ?_
      refine sd_vv rfl rfl rfl (vv_assign rfl) ?_
      refine sd_done ?_
      refine sw_seq ?_
      -- region 17 outright.go:371
      refine sw_region [(0, 0), (1, 0), (2, 0), (3, 0), (4, 0), (5, 0), (6, 0), (7, 0), (8, 0), (9, 0), (10, 0), (11, 0), (12, 0)] rfl rfl rfl ?_
      refine sd_vv rfl rfl rfl (vv_move rfl) ?_
      refine sd_split rfl rfl rfl (vv_move rfl) (fun c3 => ?_) (fun c3 => ?_)
      ·
        replace hm := cnd_t c3 hm
        refine sd_vv rfl rfl rfl (vv_move rfl) ?_
        refine sd_vv rfl rfl rfl (vv_eql (a := x4.2) (b := 0) rfl rfl) ?_
        refine sd_vv rfl rfl rfl (vv_pickT rfl rfl) ?_
        refine sd_split rfl rfl rfl (vv_move rfl) (fun c4 => ?_) (fun c4 => ?_)
        ·
          replace hm := ite_t (of_decide_eq_true c4) hm
          refine sd_vv rfl rfl rfl (vv_move rfl) ?_
          refine sd_vv rfl rfl rfl (vv_b2s (l := x4.1) Try.underlying29 Try.underlying5 Try.underlying9 rfl (Own.rd O8_r0_s)) ?_
          refine sd_vv rfl rfl rfl (vv_move rfl) ?_
          have B29 := (Rd.gr (Rd.md (Rd.gr (Rd.gr B14 Gw5) Gw6) Mw7 (tk1 ((pv_lt (A := (fun x => x ≠ b6)) lt3) : zp1 = 0 ∨ gp1 ≠ b6))) Gw8)
          refine sd_vv rfl rfl rfl (vv_b2s (l := p1) Try.underlying29 Try.underlying5 Try.underlying9 rfl B29) ?_
          refine sd_vv rfl rfl rfl (vv_eqlT (l := x4.1) (m := p1) rfl rfl) ?_
          refine sd_vv rfl rfl rfl (vv_pickT rfl rfl) ?_
          refine sd_vv rfl rfl rfl (vv_assign rfl) ?_
          refine sd_done ?_
          refine sw_ret ?_
          have X30 : Gr w w8 := (Gr.trans (Gr.md (Gr.trans (Gr.trans (Gr.kz X12 Kw4) Gw5) Gw6) Mw7) Gw8)
          have hr := Option.some.inj hm
          subst hr
          refine ⟨_, _, rfl, res_1 rfl (rv_tmp rfl), ?_⟩
          exact ⟨rfl, X30⟩
        ·
          replace hm := ite_f (of_decide_eq_false c4) hm
          refine sd_skip rfl rfl rfl ?_
          refine sd_skip rfl rfl rfl ?_
          refine sd_skip rfl rfl rfl ?_
          refine sd_skip rfl rfl rfl ?_
          refine sd_skip rfl rfl rfl ?_
          refine sd_vv rfl rfl rfl (vv_pickF rfl rfl) ?_
          refine sd_vv rfl rfl rfl (vv_assign rfl) ?_
          refine sd_done ?_
          refine sw_ret ?_
          have X31 : Gr w w8 := (Gr.trans (Gr.md (Gr.trans (Gr.trans (Gr.kz X12 Kw4) Gw5) Gw6) Mw7) Gw8)
          have hr := Option.some.inj hm
          subst hr
          refine ⟨_, _, rfl, res_1 rfl (rv_tmp rfl), ?_⟩
          exact ⟨rfl, X31⟩
      ·
        replace hm := cnd_f c3 hm
        refine sd_skip rfl rfl rfl ?_
        refine sd_skip rfl rfl rfl ?_
        refine sd_vv rfl rfl rfl (vv_pickF rfl rfl) ?_
        refine sd_vv rfl rfl rfl (vv_move rfl) ?_
        refine sd_skip rfl rfl rfl ?_
        refine sd_skip rfl rfl rfl ?_
        refine sd_skip rfl rfl rfl ?_
        refine sd_skip rfl rfl rfl ?_
        refine sd_skip rfl rfl rfl ?_
        refine sd_vv rfl rfl rfl (vv_pickF rfl rfl) ?_
        refine sd_vv rfl rfl rfl (vv_assign rfl) ?_
        refine sd_done ?_
        refine sw_ret ?_
        have X32 : Gr w w8 := (Gr.trans (Gr.md (Gr.trans (Gr.trans (Gr.kz X12 Kw4) Gw5) Gw6) Mw7) Gw8)
        have hr := Option.some.inj hm
        subst hr
        refine ⟨_, _, rfl, res_1 rfl (rv_tmp rfl), ?_⟩
        exact ⟨rfl, X32⟩
  ·
    refine sw_seq ?_
    -- region 3 outright.go:352
    refine sw_region [(0, 0), (1, 0)] rfl rfl rfl ?_
    refine sd_vv rfl rfl rfl (vv_move rfl) ?_
    refine sd_vv rfl rfl rfl (vv_eql (a := x2.2) (b := 0) rfl rfl) ?_
    refine sd_done ?_
    refine sw_cond rfl (fun c5 => ?_) (fun c5 => ?_)
    ·
      replace hm := ite_t (of_decide_eq_true c5) hm
      refine sw_seq ?_
      -- region 4 outright.go:353
      refine sw_region [(0, 0), (1, 0), (2, 0), (3, 0), (4, 0), (5, 0), (6, 0), (7, 0)] rfl rfl rfl ?_
      refine sd_vv rfl rfl rfl (vv_move rfl) ?_
      have hb := bnd hm; clear hm; obtain ⟨x5, hx5, hm⟩ := hb
      refine sd_ev rfl rfl rfl (ev_call en_26 rfl (cover_Decode_w x2.1 _ _ _ _ _ hx5 _ (Own.rd O3_r0_s))) ?_
      rintro _ w9 ⟨u9_r0_0, z9_r0_0, g9_r0_0, u9_r0_2, z9_r0_2, g9_r0_2, rfl, O9_r0_0, f9_r0_0, O9_r0_2, f9_r0_2, d9_0, Gw9⟩
      have z33 := Gw9.size
      have lt34 := O9_r0_0.lth
      have lt35 := O9_r0_2.lth
      refine sd_vv rfl rfl rfl (vv_move rfl) ?_
      refine sd_vv rfl rfl rfl (vv_extract rfl rfl) ?_
      refine sd_vv rfl rfl rfl (vv_extract rfl rfl) ?_
      refine sd_ev rfl rfl rfl (ev_alloc (cs := THeader.cs (THeader.mk [] 0#64 [] k0 k0) (.slice none 0 0) (.slice none 0 0)) zv_28 rfl) ?_
      rintro _ w10 ⟨b10, rfl, hbw10, Bw10, Gw10⟩
      have z36 := Gw10.size
      have lt37 := Bw10.lt
      have B38 := (Own.gr O9_r0_0 Gw10)
      have B39 := (Own.gr O9_r0_2 Gw10)
      refine sd_ev rfl rfl rfl (ev_stM (cs' := THeader.cs x5.1 u9_r0_0 u9_r0_2) (vs := THeader.cs x5.1 u9_r0_0 u9_r0_2) (agg_28).siz rfl rfl rfl rfl (THeader.cs_ones _ _ _ (Own.oneB B38) (Own.oneB B39)) Bw10 rfl rfl) ?_
      rintro _ w11 ⟨Bw11, Mw11⟩
      have z40 := Mw11.size
      refine sd_vv rfl rfl rfl (vv_assign rfl) ?_
      refine sd_done ?_
      refine sw_seq ?_
      have X41 : Gr w w11 := (Gr.md (Gr.trans (Gr.trans X12 Gw9) Gw10) Mw11)
      refine sw_joinD (β := Bool) [31, 32, 33, 34, 35, 36, 37, 38, 39, 40, 41, 42, 43, 44, 45, 46, 47, 48, 49, 50, 51, 52, 53] (fun a6 => [(53, .bool a6)]) (fun a6 wr => (law03_CoverHeaderBack_J2 p1 p2 x1 x2 a6 = some r) ∧ Kz [] w11 wr) ?_ ?_
      · clear hm; rintro a6 w12 ⟨hm, Kw12⟩
        have z42 := Kw12.size
        unfold law03_CoverHeaderBack_J2 at hm
        refine sw_cond rfl (fun c6 => ?_) (fun c6 => ?_)
        ·
          replace hm := cnd_t c6 hm
          refine sw_seq ?_
          -- region 6 outright.go:355
          refine sw_region [(0, 0)] rfl rfl rfl ?_
          refine sd_vv rfl rfl rfl (vv_assign rfl) ?_
          refine sd_done ?_
          refine sw_ret ?_
          refine then_r ?_
          refine then_r ?_
          have X43 : Gr w w12 := (Gr.kz X41 Kw12)
          have hr := Option.some.inj hm
          subst hr
          refine ⟨_, _, rfl, res_1 rfl (rv_tmp rfl), ?_⟩
          exact ⟨rfl, X43⟩
        ·
          replace hm := cnd_f c6 hm
          refine sw_skip ?_
          refine then_n ?_
          have X44 : Gr w w12 := (Gr.kz X41 Kw12)
          refine sw_joinD (β := Bool) [54, 55, 56, 57, 58, 59, 60, 61] (fun a7 => [(61, .bool a7)]) (fun a7 wr => (law03_CoverHeaderBack_J3 p1 p2 x1 x2 a7 = some r) ∧ Kz [] w12 wr) ?_ ?_
          · clear hm; rintro a7 w13 ⟨hm, Kw13⟩
            have z45 := Kw13.size
            unfold law03_CoverHeaderBack_J3 at hm
            refine sw_cond rfl (fun c7 => ?_) (fun c7 => ?_)
            ·
              replace hm := cnd_t c7 hm
              refine sw_seq ?_
              -- region 8 outright.go:358
              refine sw_region [(0, 0), (1, 0), (2, 0), (3, 0), (4, 0), (5, 0), (6, 0), (7, 0), (8, 0), (9, 0)] rfl rfl rfl ?_
              refine sd_vv rfl rfl rfl (vv_move rfl) ?_
              refine sd_vv rfl rfl rfl (vv_move rfl) ?_
              have hb := bnd hm; clear hm; obtain ⟨l8, hl8, hm⟩ := hb
              have B46 := (Own.kz (Own.kz (Own.md (Own.gr (Own.gr O3_r0_s Gw9) Gw10) Mw11 (tk1 ((pv_lt (A := (fun x => x ≠ b10)) lt11) : z3_r0_s = 0 ∨ g3_r0_s ≠ b10))) Kw12) Kw13)
              refine sd_sli rfl rfl rfl (vv_sliT (P := Try.prog) (lo := 0) (hi := p2) (l := x2.1) (c := bvc) Try.underlying29 (one_5).siz rfl (Own.rd B46) rfl ⟨_, rfl⟩ hl8) ?_
              rintro v47 o47 R47
              have lt48 := R47.lth
              have hb := bnd hm; clear hm; obtain ⟨x9, hx9, hm⟩ := hb
              refine sd_ev rfl rfl rfl (ev_call en_26 rfl (cover_Decode_w l8 _ _ _ _ _ hx9 _ R47)) ?_
              rintro _ w14 ⟨u14_r0_0, z14_r0_0, g14_r0_0, u14_r0_2, z14_r0_2, g14_r0_2, rfl, O14_r0_0, f14_r0_0, O14_r0_2, f14_r0_2, d14_0, Gw14⟩
              have z49 := Gw14.size
              have lt50 := O14_r0_0.lth
              have lt51 := O14_r0_2.lth
              refine sd_vv rfl rfl rfl (vv_move rfl) ?_
              refine sd_vv rfl rfl rfl (vv_extract rfl rfl) ?_
              refine sd_vv rfl rfl rfl (vv_extract rfl rfl) ?_
              refine sd_ev rfl rfl rfl (ev_alloc (cs := THeader.cs (THeader.mk [] 0#64 [] k0 k0) (.slice none 0 0) (.slice none 0 0)) zv_28 rfl) ?_
              rintro _ w15 ⟨b15, rfl, hbw15, Bw15, Gw15⟩
              have z52 := Gw15.size
              have lt53 := Bw15.lt
              have B54 := (Own.gr O14_r0_0 Gw15)
              have B55 := (Own.gr O14_r0_2 Gw15)
              refine sd_ev rfl rfl rfl (ev_stM (cs' := THeader.cs x9.1 u14_r0_0 u14_r0_2) (vs := THeader.cs x9.1 u14_r0_0 u14_r0_2) (agg_28).siz rfl rfl rfl rfl (THeader.cs_ones _ _ _ (Own.oneB B54) (Own.oneB B55)) Bw15 rfl rfl) ?_
              rintro _ w16 ⟨Bw16, Mw16⟩
              have z56 := Mw16.size
              refine sd_vv rfl rfl rfl (vv_assign rfl) ?_
              refine sd_done ?_
              refine sw_seq ?_
              -- region 9 outright.go:359
              refine sw_region [(0, 0), (1, 0)] rfl rfl rfl ?_
              refine sd_vv rfl rfl rfl (vv_move rfl) ?_
              refine sd_vv rfl rfl rfl (vv_neq (a := x9.2) (b := 12) rfl rfl) ?_
              refine sd_done ?_
              refine sw_cond rfl (fun c8 => ?_) (fun c8 => ?_)
              ·
                replace hm := ite_t (of_decide_eq_true c8) hm
                refine sw_seq ?_
                -- region 10 outright.go:360
                refine sw_region [(0, 0)] rfl rfl rfl ?_
                refine sd_vv rfl rfl rfl (vv_assign rfl) ?_
                refine sd_done ?_
                refine sw_ret ?_
                refine then_r ?_
                have X57 : Gr w w16 := (Gr.md (Gr.trans (Gr.trans (Gr.kz X44 Kw13) Gw14) Gw15) Mw16)
                have hr := Option.some.inj hm
                subst hr
                refine ⟨_, _, rfl, res_1 rfl (rv_tmp rfl), ?_⟩
                exact ⟨rfl, X57⟩
              ·
                replace hm := ite_f (of_decide_eq_false c8) hm
                refine sw_skip ?_
                have K_58 : Kz [] w3 w16 := (Kz.md (Kz.gr (Kz.gr (Kz.kz (Kz.kz (Kz.md (Kz.gr (Kz.gr (Kz.refl _ _) Gw9) Gw10) Mw11) Kw12) Kw13) Gw14) Gw15) Mw16)
                refine ⟨rfl, (), ?_, hm, K_58⟩
                repeat' first | exact trivial | refine ⟨rfl, ?_⟩
            ·
              replace hm := cnd_f c7 hm
              refine sw_skip ?_
              have K_59 : Kz [] w3 w13 := (Kz.kz (Kz.kz (Kz.md (Kz.gr (Kz.gr (Kz.refl _ _) Gw9) Gw10) Mw11) Kw12) Kw13)
              refine ⟨rfl, (), ?_, hm, K_59⟩
              repeat' first | exact trivial | refine ⟨rfl, ?_⟩
          ·
            -- region 7 outright.go:357
            refine sw_region [(0, 0), (1, 0), (2, 0), (3, 0), (4, 0), (5, 0), (6, 0), (7, 0)] rfl rfl rfl ?_
            refine sd_vv rfl rfl rfl (vv_move rfl) ?_
            refine sd_vv rfl rfl rfl (vv_geq (a := p2) (b := 0) rfl rfl) ?_
            refine sd_split rfl rfl rfl (vv_move rfl) (fun c9 => ?_) (fun c9 => ?_)
            ·
              replace hm := ite_t (of_decide_eq_true c9) hm
              refine sd_vv rfl rfl rfl (vv_move rfl) ?_
              refine sd_vv rfl rfl rfl (vv_move rfl) ?_
              have B60 := (Own.kz (Own.md (Own.gr (Own.gr O3_r0_s Gw9) Gw10) Mw11 (tk1 ((pv_lt (A := (fun x => x ≠ b10)) lt11) : z3_r0_s = 0 ∨ g3_r0_s ≠ b10))) Kw12)
              refine sd_vv rfl rfl rfl (vv_lenT (l := x2.1) (c := bvc) Try.underlying29 rfl (Own.rd B60)) ?_
              refine sd_vv rfl rfl rfl (vv_lss (a := p2) (b := (x2.1.length : Int)) rfl rfl) ?_
              refine sd_vv rfl rfl rfl (vv_pickT rfl rfl) ?_
              refine sd_nil ?_
              have K_61 : Kz [] w12 w12 := (Kz.refl _ _)
              refine ⟨rfl, (decide (p2 < (x2.1.length : Int))), ?_, hm, K_61⟩
              repeat' first | exact trivial | refine ⟨rfl, ?_⟩
            ·
              replace hm := ite_f (of_decide_eq_false c9) hm
              refine sd_skip rfl rfl rfl ?_
              refine sd_skip rfl rfl rfl ?_
              refine sd_skip rfl rfl rfl ?_
              refine sd_skip rfl rfl rfl ?_
              refine sd_vv rfl rfl rfl (vv_pickF rfl rfl) ?_
              refine sd_nil ?_
              have K_62 : Kz [] w12 w12 := (Kz.refl _ _)
              refine ⟨rfl, false, ?_, hm, K_62⟩
              repeat' first | exact trivial | refine ⟨rfl, ?_⟩
      ·
        -- region 5 outright.go:354
        refine sw_region [(0, 0), (1, 0), (2, 0), (3, 0), (4, 0), (5, 0), (6, 0), (7, 0), (8, 0), (9, 0), (10, 0), (11, 0), (12, 0), (13, 0), (14, 0), (15, 0), (16, 0), (17, 0), (18, 0), (19, 0), (20, 0), (21, 0), (22, 0)] rfl rfl rfl ?_
        refine sd_vv rfl rfl rfl (vv_move rfl) ?_
        refine sd_vv rfl rfl rfl (vv_neq (a := x5.2) (b := 0) rfl rfl) ?_
        refine sd_split rfl rfl rfl (vv_move rfl) (fun c10 => ?_) (fun c10 => ?_)
        ·
          replace hm := ite_t (of_decide_eq_true c10) hm
          refine sd_skip rfl rfl rfl ?_
          refine sd_skip rfl rfl rfl ?_
          refine sd_skip rfl rfl rfl ?_
          refine sd_skip rfl rfl rfl ?_
          refine sd_vv rfl rfl rfl (vv_pickT rfl rfl) ?_
          refine sd_vv rfl rfl rfl (vv_move rfl) ?_
          refine sd_skip rfl rfl rfl ?_
          refine sd_skip rfl rfl rfl ?_
          refine sd_skip rfl rfl rfl ?_
          refine sd_skip rfl rfl rfl ?_
          refine sd_skip rfl rfl rfl ?_
          refine sd_skip rfl rfl rfl ?_
          refine sd_skip rfl rfl rfl ?_
          refine sd_skip rfl rfl rfl ?_
          refine sd_skip rfl rfl rfl ?_
          refine sd_skip rfl rfl rfl ?_
          refine sd_skip rfl rfl rfl ?_
          refine sd_skip rfl rfl rfl ?_
          refine sd_skip rfl rfl rfl ?_
          refine sd_vv rfl rfl rfl (vv_pickT rfl rfl) ?_
          refine sd_nil ?_
          have K_63 : Kz [] w11 w11 := (Kz.refl _ _)
          refine ⟨rfl, true, ?_, hm, K_63⟩
          repeat' first | exact trivial | refine ⟨rfl, ?_⟩
        ·
          replace hm := ite_f (of_decide_eq_false c10) hm
          have B64 := (Bx.md (Bx.gr (Bx.gr (Bx.gr B7 Gw3) Gw9) Gw10) Mw11)
          refine sd_vv rfl rfl rfl (vv_loadW agg_28 rfl B64 rfl) ?_
          refine sd_vv rfl rfl rfl (vv_loadW agg_28 rfl Bw11 rfl) ?_
          have B65 := (Rd.md (Rd.gr (Rd.gr (Rd.gr B8 Gw3) Gw9) Gw10) Mw11 (tk1 ((pv_lt (A := (fun x => x ≠ b10)) lt1) : zp0_0 = 0 ∨ gp0_0 ≠ b10)))
          have B66 := (Rd.md (Rd.gr (Rd.gr (Rd.gr B9 Gw3) Gw9) Gw10) Mw11 (tk1 ((pv_lt (A := (fun x => x ≠ b10)) lt2) : zp0_2 = 0 ∨ gp0_2 ≠ b10)))
          have B67 := (Own.md B38 Mw11 (tk1 ((pv_lt (A := (fun x => x ≠ b10)) lt34) : z9_r0_0 = 0 ∨ g9_r0_0 ≠ b10)))
          have B68 := (Own.md B39 Mw11 (tk1 ((pv_lt (A := (fun x => x ≠ b10)) lt35) : z9_r0_2 = 0 ∨ g9_r0_2 ≠ b10)))
          have hb := bnd hm; clear hm; obtain ⟨x10, hx10, hm⟩ := hb
          refine sd_ev rfl rfl rfl (ev_call en_25 rfl (ref03_SameHeader_w p0 x5.1 _ _ _ _ _ _ _ _ _ _ _ _ _ _ _ _ _ hx10 _ B65 B66 (Own.rd B67) (Own.rd B68))) ?_
          rintro _ w17 ⟨rfl, Gw17⟩
          have z69 := Gw17.size
          refine sd_vv rfl rfl rfl (vv_not rfl) ?_
          refine sd_vv rfl rfl rfl (vv_pickF rfl rfl) ?_
          refine sd_split rfl rfl rfl (vv_move rfl) (fun c11 => ?_) (fun c11 => ?_)
          ·
            replace hm := cnd_t c11 hm
            refine sd_skip rfl rfl rfl ?_
            refine sd_skip rfl rfl rfl ?_
            refine sd_skip rfl rfl rfl ?_
            refine sd_skip rfl rfl rfl ?_
            refine sd_skip rfl rfl rfl ?_
            refine sd_skip rfl rfl rfl ?_
            refine sd_skip rfl rfl rfl ?_
            refine sd_skip rfl rfl rfl ?_
            refine sd_skip rfl rfl rfl ?_
            refine sd_skip rfl rfl rfl ?_
            refine sd_skip rfl rfl rfl ?_
            refine sd_skip rfl rfl rfl ?_
            refine sd_skip rfl rfl rfl ?_
            refine sd_vv rfl rfl rfl (vv_pickT rfl rfl) ?_
            refine sd_nil ?_
            have K_70 : Kz [] w11 w17 := (Kz.gr (Kz.refl _ _) Gw17)
            refine ⟨rfl, true, ?_, hm, K_70⟩
            repeat' first | exact trivial | refine ⟨rfl, ?_⟩
          ·
            replace hm := cnd_f c11 hm
            refine sd_vv rfl rfl rfl (vv_move rfl) ?_
            have B71 := (Own.gr (Own.md (Own.gr (Own.gr O3_r0_s Gw9) Gw10) Mw11 (tk1 ((pv_lt (A := (fun x => x ≠ b10)) lt11) : z3_r0_s = 0 ∨ g3_r0_s ≠ b10))) Gw17)
            refine sd_vv rfl rfl rfl (vv_lenT (l := x2.1) (c := bvc) Try.underlying29 rfl (Own.rd B71)) ?_
            refine sd_vv rfl rfl rfl (vv_fieldAddr fa_28_0 rfl) ?_
            have B72 := (Bx.gr B64 Gw17)
            refine sd_vv rfl rfl rfl (vv_load1 (v := vp0_0) one_22 rfl B72 rfl) ?_
            have B73 := (Rd.gr B65 Gw17)
            refine sd_vv rfl rfl rfl (vv_lenT (l := p0.Items) (c := TItem.cs) Try.underlying22 rfl B73) ?_
            refine sd_vv rfl rfl rfl (vv_mul (k := .i64) (a := 18) (b := (p0.Items.length : Int)) rfl rfl) ?_
            refine sd_vv rfl rfl rfl (vv_add (k := .i64) (a := 42) (b := w64 (18 * (p0.Items.length : Int))) rfl rfl) ?_
            refine sd_vv rfl rfl rfl (vv_fieldAddr fa_28_2 rfl) ?_
            refine sd_vv rfl rfl rfl (vv_load1 (v := vp0_2) one_24 rfl B72 rfl) ?_
            have B74 := (Rd.gr B66 Gw17)
            refine sd_vv rfl rfl rfl (vv_lenT (l := p0.Points) (c := TPoint.cs) Try.underlying24 rfl B74) ?_
            refine sd_vv rfl rfl rfl (vv_mul (k := .i64) (a := 16) (b := (p0.Points.length : Int)) rfl rfl) ?_
            refine sd_vv rfl rfl rfl (vv_add (k := .i64) (a := w64 (42 + (w64 (18 * (p0.Items.length : Int))))) (b := w64 (16 * (p0.Points.length : Int))) rfl rfl) ?_
            refine sd_vv rfl rfl rfl (vv_neq (a := (x2.1.length : Int)) (b := w64 ((w64 (42 + (w64 (18 * (p0.Items.length : Int))))) + (w64 (16 * (p0.Points.length : Int))))) rfl rfl) ?_
            refine sd_vv rfl rfl rfl (vv_pickF rfl rfl) ?_
            refine sd_nil ?_
            have K_75 : Kz [] w11 w17 := (Kz.gr (Kz.refl _ _) Gw17)
            refine ⟨rfl, (decide ((x2.1.length : Int) ≠ w64 ((w64 (42 + (w64 (18 * (p0.Items.length : Int))))) + (w64 (16 * (p0.Points.length : Int)))))), ?_, hm, K_75⟩
            repeat' first | exact trivial | refine ⟨rfl, ?_⟩
    ·
      replace hm := ite_f (of_decide_eq_false c5) hm
      refine sw_joinD (β := Bool) [71, 72, 73, 74, 75, 76, 77, 78, 79, 80, 81, 82, 83, 84, 85, 86, 87, 88] (fun a11 => [(88, .bool a11)]) (fun a11 wr => (law03_CoverHeaderBack_J4 p1 x1 a11 = some r) ∧ Kz [] w3 wr) ?_ ?_
      · clear hm; rintro a11 w18 ⟨hm, Kw18⟩
        have z76 := Kw18.size
        unfold law03_CoverHeaderBack_J4 at hm
        refine sw_cond rfl (fun c12 => ?_) (fun c12 => ?_)
        ·
          replace hm := cnd_t c12 hm
          refine sw_seq ?_
          -- region 12 outright.go:364
          refine sw_region [(0, 0)] rfl rfl rfl ?_
          refine sd_vv rfl rfl rfl (vv_assign rfl) ?_
          refine sd_done ?_
          refine sw_ret ?_
          refine then_r ?_
          have X77 : Gr w w18 := (Gr.kz X12 Kw18)
          have hr := Option.some.inj hm
          subst hr
          refine ⟨_, _, rfl, res_1 rfl (rv_tmp rfl), ?_⟩
          exact ⟨rfl, X77⟩
        ·
          replace hm := cnd_f c12 hm
          refine sw_skip ?_
          have K_78 : Kz [] w3 w18 := (Kz.kz (Kz.refl _ _) Kw18)
          refine ⟨rfl, (), ?_, hm, K_78⟩
          repeat' first | exact trivial | refine ⟨rfl, ?_⟩
      ·
        -- region 11 outright.go:363
        refine sw_region [(0, 0), (1, 0), (2, 0), (3, 0), (4, 0), (5, 0), (6, 0), (7, 0), (8, 0), (9, 0), (10, 0), (11, 0), (12, 0), (13, 0), (14, 0), (15, 0), (16, 0), (17, 0)] rfl rfl rfl ?_
        refine sd_vv rfl rfl rfl (vv_move rfl) ?_
        refine sd_vv rfl rfl rfl (vv_neq (a := x2.2) (b := 4) rfl rfl) ?_
        refine sd_split rfl rfl rfl (vv_move rfl) (fun c13 => ?_) (fun c13 => ?_)
        ·
          replace hm := ite_t (of_decide_eq_true c13) hm
          refine sd_vv rfl rfl rfl (vv_move rfl) ?_
          refine sd_vv rfl rfl rfl (vv_neq (a := x2.2) (b := 2) rfl rfl) ?_
          refine sd_vv rfl rfl rfl (vv_pickT rfl rfl) ?_
          refine sd_split rfl rfl rfl (vv_move rfl) (fun c14 => ?_) (fun c14 => ?_)
          ·
            replace hm := ite_t (of_decide_eq_true c14) hm
            refine sd_skip rfl rfl rfl ?_
            refine sd_skip rfl rfl rfl ?_
            refine sd_skip rfl rfl rfl ?_
            refine sd_skip rfl rfl rfl ?_
            refine sd_skip rfl rfl rfl ?_
            refine sd_skip rfl rfl rfl ?_
            refine sd_skip rfl rfl rfl ?_
            refine sd_skip rfl rfl rfl ?_
            refine sd_skip rfl rfl rfl ?_
            refine sd_skip rfl rfl rfl ?_
            refine sd_vv rfl rfl rfl (vv_pickT rfl rfl) ?_
            refine sd_nil ?_
            have K_79 : Kz [] w3 w3 := (Kz.refl _ _)
            refine ⟨rfl, true, ?_, hm, K_79⟩
            repeat' first | exact trivial | refine ⟨rfl, ?_⟩
          ·
            replace hm := ite_f (of_decide_eq_false c14) hm
            refine sd_vv rfl rfl rfl (vv_fieldAddr fa_28_0 rfl) ?_
            have B80 := (Bx.gr B7 Gw3)
            refine sd_vv rfl rfl rfl (vv_load1 (v := vp0_0) one_22 rfl B80 rfl) ?_
            have B81 := (Rd.gr B8 Gw3)
            refine sd_vv rfl rfl rfl (vv_lenT (l := p0.Items) (c := TItem.cs) Try.underlying22 rfl B81) ?_
            refine sd_vv rfl rfl rfl (vv_eql (a := (p0.Items.length : Int)) (b := 0) rfl rfl) ?_
            refine sd_split rfl rfl rfl (vv_move rfl) (fun c15 => ?_) (fun c15 => ?_)
            ·
              replace hm := ite_t (of_decide_eq_true c15) hm
              refine sd_vv rfl rfl rfl (vv_fieldAddr fa_28_2 rfl) ?_
              refine sd_vv rfl rfl rfl (vv_load1 (v := vp0_2) one_24 rfl B80 rfl) ?_
              have B82 := (Rd.gr B9 Gw3)
              refine sd_vv rfl rfl rfl (vv_lenT (l := p0.Points) (c := TPoint.cs) Try.underlying24 rfl B82) ?_
              refine sd_vv rfl rfl rfl (vv_eql (a := (p0.Points.length : Int)) (b := 0) rfl rfl) ?_
              refine sd_vv rfl rfl rfl (vv_pickT rfl rfl) ?_
              refine sd_vv rfl rfl rfl (vv_pickF rfl rfl) ?_
              refine sd_nil ?_
              have K_83 : Kz [] w3 w3 := (Kz.refl _ _)
              refine ⟨rfl, (decide ((p0.Points.length : Int) = 0)), ?_, hm, K_83⟩
              repeat' first | exact trivial | refine ⟨rfl, ?_⟩
            ·
              replace hm := ite_f (of_decide_eq_false c15) hm
              refine sd_skip rfl rfl rfl ?_
              refine sd_skip rfl rfl rfl ?_
              refine sd_skip rfl rfl rfl ?_
              refine sd_skip rfl rfl rfl ?_
              refine sd_vv rfl rfl rfl (vv_pickF rfl rfl) ?_
              refine sd_vv rfl rfl rfl (vv_pickF rfl rfl) ?_
              refine sd_nil ?_
              have K_84 : Kz [] w3 w3 := (Kz.refl _ _)
              refine ⟨rfl, false, ?_, hm, K_84⟩
              repeat' first | exact trivial | refine ⟨rfl, ?_⟩
        ·
          replace hm := ite_f (of_decide_eq_false c13) hm
          refine sd_skip rfl rfl rfl ?_
          refine sd_skip rfl rfl rfl ?_
          refine sd_vv rfl rfl rfl (vv_pickF rfl rfl) ?_
          refine sd_vv rfl rfl rfl (vv_move rfl) ?_
          refine sd_vv rfl rfl rfl (vv_fieldAddr fa_28_0 rfl) ?_
          have B85 := (Bx.gr B7 Gw3)
          refine sd_vv rfl rfl rfl (vv_load1 (v := vp0_0) one_22 rfl B85 rfl) ?_
          have B86 := (Rd.gr B8 Gw3)
          refine sd_vv rfl rfl rfl (vv_lenT (l := p0.Items) (c := TItem.cs) Try.underlying22 rfl B86) ?_
          refine sd_vv rfl rfl rfl (vv_eql (a := (p0.Items.length : Int)) (b := 0) rfl rfl) ?_
          refine sd_split rfl rfl rfl (vv_move rfl) (fun c16 => ?_) (fun c16 => ?_)
          ·
            replace hm := ite_t (of_decide_eq_true c16) hm
            refine sd_vv rfl rfl rfl (vv_fieldAddr fa_28_2 rfl) ?_
            refine sd_vv rfl rfl rfl (vv_load1 (v := vp0_2) one_24 rfl B85 rfl) ?_
            have B87 := (Rd.gr B9 Gw3)
            refine sd_vv rfl rfl rfl (vv_lenT (l := p0.Points) (c := TPoint.cs) Try.underlying24 rfl B87) ?_
            refine sd_vv rfl rfl rfl (vv_eql (a := (p0.Points.length : Int)) (b := 0) rfl rfl) ?_
            refine sd_vv rfl rfl rfl (vv_pickT rfl rfl) ?_
            refine sd_vv rfl rfl rfl (vv_pickF rfl rfl) ?_
            refine sd_nil ?_
            have K_88 : Kz [] w3 w3 := (Kz.refl _ _)
            refine ⟨rfl, (decide ((p0.Points.length : Int) = 0)), ?_, hm, K_88⟩
            repeat' first | exact trivial | refine ⟨rfl, ?_⟩
          ·
            replace hm := ite_f (of_decide_eq_false c16) hm
            refine sd_skip rfl rfl rfl ?_
            refine sd_skip rfl rfl rfl ?_
            refine sd_skip rfl rfl rfl ?_
            refine sd_skip rfl rfl rfl ?_
            refine sd_vv rfl rfl rfl (vv_pickF rfl rfl) ?_
            refine sd_vv rfl rfl rfl (vv_pickF rfl rfl) ?_
            refine sd_nil ?_
            have K_89 : Kz [] w3 w3 := (Kz.refl _ _)
            refine ⟨rfl, false, ?_, hm, K_89⟩
            repeat' first | exact trivial | refine ⟨rfl, ?_⟩
end Go.Proofs.Ytecempahccgijaa.Mx
