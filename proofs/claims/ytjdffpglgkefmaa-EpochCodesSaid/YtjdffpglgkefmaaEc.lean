/- Walks that follow mirrors: Ec. Printed by mx.py. -/
import Derived.Test.YtjdffpglgkefmaaEr
import Derived.Test.YtjdffpglgkefmaaEcM
set_option linter.unusedVariables false
set_option linter.unusedSimpArgs false
set_option maxRecDepth 100000
namespace Go.Proofs.Ytjdffpglgkefmaa.Mx
open Go Go.RowKit Go.Sx
theorem zv_37 : ZV Try.prog 37 (.agg [.int .i64 0, .slice none 0 0, .int .u64 0, .int .u64 0].toArray) := fun _ => by kernel_rfl
theorem bs_37 : BS Try.prog 37 (fun i => [(0, 1), (1, 1), (2, 2)][i]?) [.int .i64 0, .slice none 0 0, .int .u64 0, .int .u64 0] := bs_mk Try.underlying37 zv_37 ⟨rfl, (one_3).siz, rfl, (one_33).siz, rfl, (agg_35).siz, trivial⟩
theorem en_4 : En Try.prog 4 := fun _ _ => by kernel_rfl
theorem en_5 : En Try.prog 5 := fun _ _ => by kernel_rfl
theorem en_6 : En Try.prog 6 := fun _ _ => by kernel_rfl
theorem en_7 : En Try.prog 7 := fun _ _ => by kernel_rfl
theorem en_8 : En Try.prog 8 := fun _ _ => by kernel_rfl
theorem en_10 : En Try.prog 10 := fun _ _ => by kernel_rfl
theorem en_11 : En Try.prog 11 := fun _ _ => by kernel_rfl

set_option maxHeartbeats 2000000 in
theorem ref05_CheckPacket_w (p0 : TPacket) (vp0_2 : Value) (zp0_2 gp0_2 op0_2 : Nat) (vp0_4 : Value) (zp0_4 gp0_4 op0_4 : Nat) (vp0_39 : Value) (zp0_39 gp0_39 op0_39 : Nat) (r : Int) (hm : ref05_CheckPacket p0 = some r) (w : World) (hp0_2 : Rd w zp0_2 gp0_2 op0_2 18 vp0_2 (p0.Head.Items.map TItem.cs)) (hp0_4 : Rd w zp0_4 gp0_4 op0_4 2 vp0_4 (p0.Head.Points.map TPoint.cs)) (hp0_39 : Rd w zp0_39 gp0_39 op0_39 1 vp0_39 (p0.Data.map bvc))  :
    Calls Try.prog 10 [.agg (TPacket.cs p0 vp0_2 vp0_4 vp0_39).toArray].toArray w fun e w' => ∃ v, e = .returned v ∧ (v = .int .i64 r ∧ Gr w w') := by
  have lt1 := hp0_2.lth
  have lt2 := hp0_4.lth
  have lt3 := hp0_39.lth
  unfold ref05_CheckPacket at hm
  refine calls_of_sw (R := fun v w' => v = .int .i64 r ∧ Gr w w') 6 Try.func10 rfl rfl rfl ?_
  refine sw_seq ?_
  -- region 0 ref.go:224
  refine sw_region [(0, 0), (1, 0)] rfl rfl rfl ?_
  refine sd_ev rfl rfl rfl (ev_box (cs := TPacket.cs p0 vp0_2 vp0_4 vp0_39) rfl rfl) ?_
  rintro _ w1 ⟨b1, rfl, hbw1, Bw1, Gw1⟩
  have z4 := Gw1.size
  have lt5 := Bw1.lt
  refine sd_vv rfl rfl rfl (vv_assign rfl) ?_
  refine sd_done ?_
  refine sw_seq ?_
  refine sw_seq ?_
  -- region 1 ref.go:225
  refine sw_region [(0, 0), (1, 0), (2, 0)] rfl rfl rfl ?_
  refine sd_vv rfl rfl rfl (vv_loadW agg_31 rfl Bw1 rfl) ?_
  have B6 := (Rd.gr hp0_2 Gw1)
  have B7 := (Rd.gr hp0_4 Gw1)
  have B8 := (Rd.gr hp0_39 Gw1)
  have hb := bnd hm; clear hm; obtain ⟨x1, hx1, hm⟩ := hb
  refine sd_ev rfl rfl rfl (ev_call en_13 rfl (ref05_ValidPacket_w p0 _ _ _ _ _ _ _ _ _ _ _ _ _ hx1 _ B6 B7 B8)) ?_
  rintro _ w2 ⟨rfl, Gw2⟩
  have z9 := Gw2.size
  refine sd_vv rfl rfl rfl (vv_not rfl) ?_
  refine sd_done ?_
  refine sw_cond rfl (fun c1 => ?_) (fun c1 => ?_)
  ·
    replace hm := cnd_t c1 hm
    refine sw_seq ?_
    -- region 2 ref.go:226
    refine sw_region [(0, 0)] rfl rfl rfl ?_
    refine sd_vv rfl rfl rfl (vv_assign rfl) ?_
    refine sd_done ?_
    refine sw_ret ?_
    refine then_r ?_
    have X10 : Gr w w2 := (Gr.trans (Gr.trans (Gr.refl w) Gw1) Gw2)
    have hr := Option.some.inj hm
    subst hr
    refine ⟨_, _, rfl, res_1 rfl (rv_tmp rfl), ?_⟩
    exact ⟨rfl, X10⟩
  ·
    replace hm := cnd_f c1 hm
    refine sw_skip ?_
    refine then_n ?_
    refine sw_seq ?_
    -- region 3 ref.go:228
    refine sw_region [(0, 0)] rfl rfl rfl ?_
    refine sd_vv rfl rfl rfl (vv_assign rfl) ?_
    refine sd_done ?_
    refine sw_ret ?_
    have X11 : Gr w w2 := (Gr.trans (Gr.trans (Gr.refl w) Gw1) Gw2)
    have hr := Option.some.inj hm
    subst hr
    refine ⟨_, _, rfl, res_1 rfl (rv_tmp rfl), ?_⟩
    exact ⟨rfl, X11⟩

set_option maxHeartbeats 2000000 in
theorem law05_EpochCodes_w (p0 : TPacket) (p1 : List (BitVec 8)) (vp0_2 : Value) (zp0_2 gp0_2 op0_2 : Nat) (vp0_4 : Value) (zp0_4 gp0_4 op0_4 : Nat) (vp0_39 : Value) (zp0_39 gp0_39 op0_39 : Nat) (vp1 : Value) (zp1 gp1 op1 : Nat) (r : Bool) (hm : law05_EpochCodes p0 p1 = some r) (w : World) (hp0_2 : Rd w zp0_2 gp0_2 op0_2 18 vp0_2 (p0.Head.Items.map TItem.cs)) (hp0_4 : Rd w zp0_4 gp0_4 op0_4 2 vp0_4 (p0.Head.Points.map TPoint.cs)) (hp0_39 : Rd w zp0_39 gp0_39 op0_39 1 vp0_39 (p0.Data.map bvc)) (hp1 : Rd w zp1 gp1 op1 1 vp1 (p1.map bvc))  :
    Calls Try.prog 3 [.agg (TPacket.cs p0 vp0_2 vp0_4 vp0_39).toArray, vp1].toArray w fun e w' => ∃ v, e = .returned v ∧ (v = .bool r ∧ Gr w w') := by
  have lt1 := hp0_2.lth
  have lt2 := hp0_4.lth
  have lt3 := hp0_39.lth
  have lt4 := hp1.lth
  unfold law05_EpochCodes at hm
  refine calls_of_sw (R := fun v w' => v = .bool r ∧ Gr w w') 123 Try.func3 rfl rfl rfl ?_
  refine sw_seq ?_
  -- region 0 law.go:67
  refine sw_region [(0, 0), (1, 0)] rfl rfl rfl ?_
  refine sd_ev rfl rfl rfl (ev_box (cs := TPacket.cs p0 vp0_2 vp0_4 vp0_39) rfl rfl) ?_
  rintro _ w1 ⟨b1, rfl, hbw1, Bw1, Gw1⟩
  have z5 := Gw1.size
  have lt6 := Bw1.lt
  refine sd_vv rfl rfl rfl (vv_assign rfl) ?_
  refine sd_done ?_
  refine sw_seq ?_
  have X7 : Gr w w1 := (Gr.trans (Gr.refl w) Gw1)
  refine sw_joinD (β := Bool) [19, 20, 21, 22, 23, 24, 25, 26] (fun a1 => [(26, .bool a1)]) (fun a1 wr => (law05_EpochCodes_J1 p0 p1 a1 = some r) ∧ Kz [] w1 wr) ?_ ?_
  · clear hm; rintro a1 w2 ⟨hm, Kw2⟩
    have z8 := Kw2.size
    unfold law05_EpochCodes_J1 at hm
    refine sw_cond rfl (fun c1 => ?_) (fun c1 => ?_)
    ·
      replace hm := cnd_t c1 hm
      refine sw_seq ?_
      -- region 2 law.go:69
      refine sw_region [(0, 0)] rfl rfl rfl ?_
      refine sd_vv rfl rfl rfl (vv_assign rfl) ?_
      refine sd_done ?_
      refine sw_ret ?_
      refine then_r ?_
      have X9 : Gr w w2 := (Gr.kz X7 Kw2)
      have hr := Option.some.inj hm
      subst hr
      refine ⟨_, _, rfl, res_1 rfl (rv_tmp rfl), ?_⟩
      exact ⟨rfl, X9⟩
    ·
      replace hm := cnd_f c1 hm
      refine sw_skip ?_
      refine then_n ?_
      refine sw_seq ?_
      -- region 3 law.go:71
      refine sw_region [(0, 0), (1, 0), (2, 0), (3, 0)] rfl rfl rfl ?_
      refine sd_ev rfl rfl rfl (ev_litT ([] : List (BitVec 8)) bvc bsl_29_0 rfl rfl (ws_of rfl) rfl rfl rfl) ?_
      rintro vw3 w3 ⟨gw3, hbw3, Ow3, Gw3⟩
      have z10 := Gw3.size
      have lt11 := Ow3.lth
      refine sd_vv rfl rfl rfl (vv_move rfl) ?_
      have B12 := (Rd.gr (Rd.kz (Rd.gr hp1 Gw1) Kw2) Gw3)
      have hb := bnd hm; clear hm; obtain ⟨l2, hl2, hm⟩ := hb
      refine sd_ev rfl rfl rfl (ev_appT (l := ([] : List (BitVec 8))) (m := p1) (c := bvc) apt_29 rfl rfl Ow3 B12 hl2 (by decide)) ?_
      rintro vw4 w4 ⟨zw4, gw4, Ow4, Aw4, qw4, rw4⟩
      have z13 := Aw4.size
      refine sd_vv rfl rfl rfl (vv_assign rfl) ?_
      refine sd_done ?_
      refine sw_seq ?_
      -- region 4 law.go:72
      refine sw_region [(0, 0), (1, 0), (2, 0), (3, 0), (4, 0), (5, 0), (6, 0)] rfl rfl rfl ?_
      have B14 := (Bx.ka (Bx.gr (Bx.kz Bw1 Kw2) Gw3) Aw4 (tk1 ((.inr tk0) : 1 = 0 ∨ gw3 ≠ b1)))
      refine sd_vv rfl rfl rfl (vv_loadW agg_31 rfl B14 rfl) ?_
      have B15 := (Rd.ka (Rd.gr (Rd.kz (Rd.gr hp0_2 Gw1) Kw2) Gw3) Aw4 (tk1 ((pv_sw (.inr (tk1 lt1.o))) : zp0_2 = 0 ∨ 1 = 0 ∨ gp0_2 ≠ gw3)))
      have B16 := (Rd.ka (Rd.gr (Rd.kz (Rd.gr hp0_4 Gw1) Kw2) Gw3) Aw4 (tk1 ((pv_sw (.inr (tk1 lt2.o))) : zp0_4 = 0 ∨ 1 = 0 ∨ gp0_4 ≠ gw3)))
      have B17 := (Rd.ka (Rd.gr (Rd.kz (Rd.gr hp0_39 Gw1) Kw2) Gw3) Aw4 (tk1 ((pv_sw (.inr (tk1 lt3.o))) : zp0_39 = 0 ∨ 1 = 0 ∨ gp0_39 ≠ gw3)))
      have hb := bnd hm; clear hm; obtain ⟨x3, hx3, hm⟩ := hb
      refine sd_ev rfl rfl rfl (ev_call en_5 rfl (epoch_Encode_w p0 _ _ _ _ _ _ _ _ _ _ _ _ _ hx3 _ B15 B16 B17)) ?_
      rintro _ w5 ⟨u5_r0_s, z5_r0_s, g5_r0_s, rfl, O5_r0_s, f5_r0_s, Gw5⟩
      have z18 := Gw5.size
      have lt19 := O5_r0_s.lth
      refine sd_vv rfl rfl rfl (vv_move rfl) ?_
      refine sd_vv rfl rfl rfl (vv_extract rfl rfl) ?_
      refine sd_vv rfl rfl rfl (vv_extract rfl rfl) ?_
      refine sd_vv rfl rfl rfl (vv_assign rfl) ?_
      refine sd_vv rfl rfl rfl (vv_assign rfl) ?_
      refine sd_done ?_
      refine sw_seq ?_
      -- region 5 law.go:73
      refine sw_region [(0, 0), (1, 0), (2, 0), (3, 0), (4, 0), (5, 0), (6, 0)] rfl rfl rfl ?_
      have B20 := (Bx.gr B14 Gw5)
      refine sd_vv rfl rfl rfl (vv_loadW agg_31 rfl B20 rfl) ?_
      have B21 := (Rd.gr B15 Gw5)
      have B22 := (Rd.gr B16 Gw5)
      have B23 := (Rd.gr B17 Gw5)
      have hb := bnd hm; clear hm; obtain ⟨x4, hx4, hm⟩ := hb
      refine sd_ev rfl rfl rfl (ev_call en_6 rfl (ref05_Encode_w p0 _ _ _ _ _ _ _ _ _ _ _ _ _ hx4 _ B21 B22 B23)) ?_
      rintro _ w6 ⟨u6_r0_s, z6_r0_s, g6_r0_s, rfl, O6_r0_s, f6_r0_s, Gw6⟩
      have z24 := Gw6.size
      have lt25 := O6_r0_s.lth
      refine sd_vv rfl rfl rfl (vv_move rfl) ?_
      refine sd_vv rfl rfl rfl (vv_extract rfl rfl) ?_
      refine sd_vv rfl rfl rfl (vv_extract rfl rfl) ?_
      refine sd_vv rfl rfl rfl (vv_assign rfl) ?_
      refine sd_vv rfl rfl rfl (vv_assign rfl) ?_
      refine sd_done ?_
      refine sw_seq ?_
      -- region 6 law.go:74
      refine sw_region [(0, 0), (1, 0), (2, 0), (3, 0), (4, 0), (5, 0), (6, 0), (7, 0)] rfl rfl rfl ?_
      refine sd_vv rfl rfl rfl (vv_move rfl) ?_
      have B26 := (Own.gr (Own.gr Ow4 Gw5) Gw6)
      have hb := bnd hm; clear hm; obtain ⟨x5, hx5, hm⟩ := hb
      refine sd_ev rfl rfl rfl (ev_call en_7 rfl (epoch_Decode_w l2 _ _ _ _ _ hx5 _ (Own.rd B26))) ?_
      rintro _ w7 ⟨u7_r0_2, z7_r0_2, g7_r0_2, u7_r0_4, z7_r0_4, g7_r0_4, u7_r0_39, z7_r0_39, g7_r0_39, rfl, O7_r0_2, f7_r0_2, O7_r0_4, f7_r0_4, O7_r0_39, f7_r0_39, d7_0, d7_1, d7_2, Gw7⟩
      have z27 := Gw7.size
      have lt28 := O7_r0_2.lth
      have lt29 := O7_r0_4.lth
      have lt30 := O7_r0_39.lth
      refine sd_vv rfl rfl rfl (vv_move rfl) ?_
      refine sd_vv rfl rfl rfl (vv_extract rfl rfl) ?_
      refine sd_vv rfl rfl rfl (vv_extract rfl rfl) ?_
      refine sd_ev rfl rfl rfl (ev_alloc (cs := TPacket.cs (TPacket.mk 0#8 0 (THeader.mk [] 0#64 [] k0 k0) 0#8 0#64 [] k0) (.slice none 0 0) (.slice none 0 0) (.slice none 0 0)) zv_31 rfl) ?_
      rintro _ w8 ⟨b8, rfl, hbw8, Bw8, Gw8⟩
      have z31 := Gw8.size
      have lt32 := Bw8.lt
      have B33 := (Own.gr O7_r0_2 Gw8)
      have B34 := (Own.gr O7_r0_4 Gw8)
      have B35 := (Own.gr O7_r0_39 Gw8)
      refine sd_ev rfl rfl rfl (ev_stM (cs' := TPacket.cs x5.1 u7_r0_2 u7_r0_4 u7_r0_39) (vs := TPacket.cs x5.1 u7_r0_2 u7_r0_4 u7_r0_39) (agg_31).siz rfl rfl rfl rfl (TPacket.cs_ones _ _ _ _ (Own.oneB B33) (Own.oneB B34) (Own.oneB B35)) Bw8 rfl rfl) ?_
      rintro _ w9 ⟨Bw9, Mw9⟩
      have z36 := Mw9.size
      refine sd_vv rfl rfl rfl (vv_assign rfl) ?_
      refine sd_done ?_
      refine sw_seq ?_
      -- region 7 law.go:75
      refine sw_region [(0, 0), (1, 0), (2, 0), (3, 0), (4, 0), (5, 0), (6, 0), (7, 0)] rfl rfl rfl ?_
      refine sd_vv rfl rfl rfl (vv_move rfl) ?_
      have B37 := (Rd.md (Rd.gr (Rd.gr (Rd.gr (Rd.gr (Rd.ka B12 Aw4 (tk1 ((pv_sw (.inr (tk1 lt4.o))) : zp1 = 0 ∨ 1 = 0 ∨ gp1 ≠ gw3))) Gw5) Gw6) Gw7) Gw8) Mw9 (tk1 ((pv_lt (A := (fun x => x ≠ b8)) lt4) : zp1 = 0 ∨ gp1 ≠ b8)))
      have hb := bnd hm; clear hm; obtain ⟨x6, hx6, hm⟩ := hb
      refine sd_ev rfl rfl rfl (ev_call en_8 rfl (ref05_Decode_w p1 _ _ _ _ _ hx6 _ B37)) ?_
      rintro _ w10 ⟨u10_r0_2, z10_r0_2, g10_r0_2, u10_r0_4, z10_r0_4, g10_r0_4, u10_r0_39, z10_r0_39, g10_r0_39, rfl, O10_r0_2, f10_r0_2, O10_r0_4, f10_r0_4, O10_r0_39, f10_r0_39, d10_0, d10_1, d10_2, Gw10⟩
      have z38 := Gw10.size
      have lt39 := O10_r0_2.lth
      have lt40 := O10_r0_4.lth
      have lt41 := O10_r0_39.lth
      refine sd_vv rfl rfl rfl (vv_move rfl) ?_
      refine sd_vv rfl rfl rfl (vv_extract rfl rfl) ?_
      refine sd_vv rfl rfl rfl (vv_extract rfl rfl) ?_
      refine sd_ev rfl rfl rfl (ev_alloc (cs := TPacket.cs (TPacket.mk 0#8 0 (THeader.mk [] 0#64 [] k0 k0) 0#8 0#64 [] k0) (.slice none 0 0) (.slice none 0 0) (.slice none 0 0)) zv_31 rfl) ?_
      rintro _ w11 ⟨b11, rfl, hbw11, Bw11, Gw11⟩
      have z42 := Gw11.size
      have lt43 := Bw11.lt
      have B44 := (Own.gr O10_r0_2 Gw11)
      have B45 := (Own.gr O10_r0_4 Gw11)
      have B46 := (Own.gr O10_r0_39 Gw11)
      refine sd_ev rfl rfl rfl (ev_stM (cs' := TPacket.cs x6.1 u10_r0_2 u10_r0_4 u10_r0_39) (vs := TPacket.cs x6.1 u10_r0_2 u10_r0_4 u10_r0_39) (agg_31).siz rfl rfl rfl rfl (TPacket.cs_ones _ _ _ _ (Own.oneB B44) (Own.oneB B45) (Own.oneB B46)) Bw11 rfl rfl) ?_
      rintro _ w12 ⟨Bw12, Mw12⟩
      have z47 := Mw12.size
      refine sd_vv rfl rfl rfl (vv_assign rfl) ?_
      refine sd_done ?_
      have X48 : Gr w w12 := (Gr.md (Gr.trans (Gr.trans (Gr.md (Gr.trans (Gr.trans (Gr.trans (Gr.trans (Gr.ka (Gr.trans (Gr.kz X7 Kw2) Gw3) Aw4 (tk1 ((.inr tk0) : 1 = 0 ∨ w.heap.size ≤ gw3))) Gw5) Gw6) Gw7) Gw8) Mw9) Gw10) Gw11) Mw12)
      refine sw_joinD (β := Bool) [14, 50, 51, 52, 53, 54, 55, 56, 57, 58, 59, 60, 61, 62, 63, 64, 65, 66, 67, 68, 69, 70, 71, 72, 73, 74, 75, 76] (fun a7 => [(14, .bool a7)]) (fun a7 wr => (law05_EpochCodes_J2 p0 p1 l2 x3 x4 x5 a7 = some r) ∧ Kz [] w12 wr) ?_ ?_
      · clear hm; rintro a7 w13 ⟨hm, Kw13⟩
        have z49 := Kw13.size
        unfold law05_EpochCodes_J2 at hm
        refine sw_seq ?_
        refine sw_seq ?_
        -- region 9 law.go:77
        refine sw_region [(0, 0), (1, 0), (2, 0), (3, 0)] rfl rfl rfl ?_
        refine sd_vv rfl rfl rfl (vv_fieldAddr fa_31_5 rfl) ?_
        have B50 := (Bx.kz (Bx.md (Bx.gr (Bx.gr Bw9 Gw10) Gw11) Mw12) Kw13)
        refine sd_vv rfl rfl rfl (vv_load1 (v := u7_r0_39) one_29 rfl B50 rfl) ?_
        have B51 := (Own.kz (Own.md (Own.gr (Own.gr (Own.md B35 Mw9 (tk1 ((pv_lt (A := (fun x => x ≠ b8)) lt30) : z7_r0_39 = 0 ∨ g7_r0_39 ≠ b8))) Gw10) Gw11) Mw12 (tk1 ((pv_lt (A := (fun x => x ≠ b11)) lt30) : z7_r0_39 = 0 ∨ g7_r0_39 ≠ b11))) Kw13)
        refine sd_vv rfl rfl rfl (vv_lenT (l := x5.1.Data) (c := bvc) Try.underlying29 rfl (Own.rd B51)) ?_
        refine sd_vv rfl rfl rfl (vv_move rfl) ?_
        refine sd_done ?_
        refine sw_block ?_
        have X52 : Gr w w13 := (Gr.kz X48 Kw13)
        have B53 := (Rd.kz (Rd.md (Rd.gr (Rd.gr (Rd.md (Rd.gr (Rd.gr (Rd.gr B21 Gw6) Gw7) Gw8) Mw9 (tk1 ((pv_lt (A := (fun x => x ≠ b8)) lt1) : zp0_2 = 0 ∨ gp0_2 ≠ b8))) Gw10) Gw11) Mw12 (tk1 ((pv_lt (A := (fun x => x ≠ b11)) lt1) : zp0_2 = 0 ∨ gp0_2 ≠ b11))) Kw13)
        have B54 := (Rd.kz (Rd.md (Rd.gr (Rd.gr (Rd.md (Rd.gr (Rd.gr (Rd.gr B22 Gw6) Gw7) Gw8) Mw9 (tk1 ((pv_lt (A := (fun x => x ≠ b8)) lt2) : zp0_4 = 0 ∨ gp0_4 ≠ b8))) Gw10) Gw11) Mw12 (tk1 ((pv_lt (A := (fun x => x ≠ b11)) lt2) : zp0_4 = 0 ∨ gp0_4 ≠ b11))) Kw13)
        have B55 := (Rd.kz (Rd.md (Rd.gr (Rd.gr (Rd.md (Rd.gr (Rd.gr (Rd.gr B23 Gw6) Gw7) Gw8) Mw9 (tk1 ((pv_lt (A := (fun x => x ≠ b8)) lt3) : zp0_39 = 0 ∨ gp0_39 ≠ b8))) Gw10) Gw11) Mw12 (tk1 ((pv_lt (A := (fun x => x ≠ b11)) lt3) : zp0_39 = 0 ∨ gp0_39 ≠ b11))) Kw13)
        have B56 := (Rd.kz (Rd.md (Rd.gr (Rd.gr B37 Gw10) Gw11) Mw12 (tk1 ((pv_lt (A := (fun x => x ≠ b11)) lt4) : zp1 = 0 ∨ gp1 ≠ b11))) Kw13)
        have B57 := (Own.kz (Own.md (Own.gr (Own.gr (Own.md (Own.gr (Own.gr B26 Gw7) Gw8) Mw9 (tk1 ((pv_lt (A := (fun x => x ≠ b8)) qw4) : zw4 = 0 ∨ gw4 ≠ b8))) Gw10) Gw11) Mw12 (tk1 ((pv_lt (A := (fun x => x ≠ b11)) qw4) : zw4 = 0 ∨ gw4 ≠ b11))) Kw13)
        have B58 := (Own.kz (Own.md (Own.gr (Own.gr (Own.md (Own.gr (Own.gr (Own.gr O5_r0_s Gw6) Gw7) Gw8) Mw9 (tk1 ((pv_lt (A := (fun x => x ≠ b8)) lt19) : z5_r0_s = 0 ∨ g5_r0_s ≠ b8))) Gw10) Gw11) Mw12 (tk1 ((pv_lt (A := (fun x => x ≠ b11)) lt19) : z5_r0_s = 0 ∨ g5_r0_s ≠ b11))) Kw13)
        have B59 := (Own.kz (Own.md (Own.gr (Own.gr (Own.md (Own.gr (Own.gr O6_r0_s Gw7) Gw8) Mw9 (tk1 ((pv_lt (A := (fun x => x ≠ b8)) lt25) : z6_r0_s = 0 ∨ g6_r0_s ≠ b8))) Gw10) Gw11) Mw12 (tk1 ((pv_lt (A := (fun x => x ≠ b11)) lt25) : z6_r0_s = 0 ∨ g6_r0_s ≠ b11))) Kw13)
        have B60 := (Own.kz (Own.md (Own.gr (Own.gr (Own.md B33 Mw9 (tk1 ((pv_lt (A := (fun x => x ≠ b8)) lt28) : z7_r0_2 = 0 ∨ g7_r0_2 ≠ b8))) Gw10) Gw11) Mw12 (tk1 ((pv_lt (A := (fun x => x ≠ b11)) lt28) : z7_r0_2 = 0 ∨ g7_r0_2 ≠ b11))) Kw13)
        have B61 := (Own.kz (Own.md (Own.gr (Own.gr (Own.md B34 Mw9 (tk1 ((pv_lt (A := (fun x => x ≠ b8)) lt29) : z7_r0_4 = 0 ∨ g7_r0_4 ≠ b8))) Gw10) Gw11) Mw12 (tk1 ((pv_lt (A := (fun x => x ≠ b11)) lt29) : z7_r0_4 = 0 ∨ g7_r0_4 ≠ b11))) Kw13)
        have B62 := (Own.kz (Own.md B44 Mw12 (tk1 ((pv_lt (A := (fun x => x ≠ b11)) lt39) : z10_r0_2 = 0 ∨ g10_r0_2 ≠ b11))) Kw13)
        have B63 := (Own.kz (Own.md B45 Mw12 (tk1 ((pv_lt (A := (fun x => x ≠ b11)) lt40) : z10_r0_4 = 0 ∨ g10_r0_4 ≠ b11))) Kw13)
        have B64 := (Own.kz (Own.md B46 Mw12 (tk1 ((pv_lt (A := (fun x => x ≠ b11)) lt41) : z10_r0_39 = 0 ∨ g10_r0_39 ≠ b11))) Kw13)
        refine sw_loopD (α := Nat × Int × List (BitVec 8) × Value × Nat × Nat) [15, 80, 81, 82, 83, 84, 85, 86, 87, 88, 89, 90] (fun ⟨n3, a11, a12, vy13, zy13, gy13⟩ => [(80, .int .i64 a11)]) (fun ⟨n3, a11, a12, vy13, zy13, gy13⟩ wr => (fixN (law05_EpochCodes_L3 p0 p1 l2 x3 x4 x5 a7) n3 (a11, a12) = some r) ∧ Own wr zy13 gy13 5 1 vy13 (a12.map bvc) ∧ Hdn (zy13 = 0 ∨ (gy13 = g7_r0_39 ∧ z7_r0_39 ≠ 0) ∨ w13.heap.size ≤ gy13) ∧ Bx wr b8 31 (TPacket.cs (TPacket.mk x5.1.Kind x5.1.Epoch x5.1.Head x5.1.Low x5.1.Number a12 x5.1.Mac) u7_r0_2 u7_r0_4 vy13) ∧ Kz [(1, b8), (z7_r0_39, g7_r0_39)] w13 wr) (fun ⟨n3, a11, a12, vy13, zy13, gy13⟩ => n3) ⟨FUEL, 0, x5.1.Data, u7_r0_39, z7_r0_39, g7_r0_39⟩ ?_ ?_ ?_
        · repeat' first | exact trivial | refine ⟨rfl, ?_⟩
        · exact ⟨hm, B51, ⟨tk0⟩, B50, Kz.refl _ _⟩
        · clear hm; rintro ⟨n3, a11, a12, vy13, zy13, gy13⟩ w14 ⟨hm, Fw14_0, Fw14_1, Fw14_2, Kw14⟩
          have z65 := Kw14.size
          have lt66 := Fw14_0.lth
          have lt67 := Fw14_2.lt
          have hb := fix_succ hm; clear hm; obtain ⟨n3, rfl, hm⟩ := hb
          generalize hrec3 : fixN (law05_EpochCodes_L3 p0 p1 l2 x3 x4 x5 a7) n3 = rec3 at hm
          unfold law05_EpochCodes_L3 at hm
          try dsimp only at hm
          refine sw_seq ?_
          -- region 10 law.go:77
          refine sw_region [(0, 0)] rfl rfl rfl ?_
          refine sd_vv rfl rfl rfl (vv_lss (a := a11) (b := (x5.1.Data.length : Int)) rfl rfl) ?_
          refine sd_done ?_
          refine sw_seq ?_
          refine sw_cond rfl (fun c2 => ?_) (fun c2 => ?_)
          ·
            replace hm := ite_t (of_decide_eq_true c2) hm
            refine sw_skip ?_
            refine then_n ?_
            refine sw_seq ?_
            refine sw_block ?_
            refine sw_seq ?_
            -- region 11 law.go:77
            refine sw_region [(0, 0), (1, 0)] rfl rfl rfl ?_
            refine sd_vv rfl rfl rfl (vv_move rfl) ?_
            refine sd_vv rfl rfl rfl (vv_assign rfl) ?_
            refine sd_done ?_
            -- region 12 law.go:78
            refine sw_region [(0, 0), (1, 0), (2, 0), (3, 0), (4, 0), (5, 0), (6, 0), (7, 0)] rfl rfl rfl ?_
            refine sd_vv rfl rfl rfl (vv_fieldAddr fa_31_5 rfl) ?_
            refine sd_vv rfl rfl rfl (vv_load1 (v := vy13) one_29 rfl Fw14_2 rfl) ?_
            refine sd_vv rfl rfl rfl (vv_move rfl) ?_
            have hb := bnd hm; clear hm; obtain ⟨y14, hy14, hm⟩ := hb
            refine sd_vv rfl rfl rfl (vv_ixT (i := a11) Try.underlying29 (one_5).siz rfl (Own.rd Fw14_0) rfl hy14) ?_
            refine sd_vv rfl rfl rfl (vv_el1T (q := 0) (u := bv y14) one_5 rfl (Own.rd Fw14_0) hy14 (by first | rfl | omega) rfl) ?_
            refine sd_vv rfl rfl rfl (vv_addB (p := y14) (q := 1#8) rfl rfl) ?_
            have hb := bnd hm; clear hm; obtain ⟨y15, hy15, hm⟩ := hb
            refine sd_vv rfl rfl rfl (vv_ixT (i := a11) Try.underlying29 (one_5).siz rfl (Own.rd Fw14_0) rfl hy15) ?_
            have zo68 := Own.z1 Fw14_0 hy15
            refine sd_ev rfl rfl rfl (ev_stEl (i := a11) (q := 0) (a' := y14 + 1#8) (vs := [bv (y14 + 1#8)]) (c := bvc) (one_5).siz rfl rfl rfl rfl rfl Fw14_0 hy15 (by first | rfl | omega) rfl rfl ⟨rfl, rfl⟩) ?_
            rintro _ w15 ⟨Ow15, Mw15⟩
            have z69 := Mw15.size
            refine sd_nil ?_
            refine block_n ?_
            refine then_n ?_
            -- region 13 law.go:77
            refine sw_region [(0, 0), (1, 0)] rfl rfl rfl ?_
            refine sd_vv rfl rfl rfl (vv_add (k := .i64) (a := a11) (b := 1) rfl rfl) ?_
            refine sd_vv rfl rfl rfl (vv_move rfl) ?_
            refine sd_nil ?_
            have K_70 : Kz [(1, b8), (z7_r0_39, g7_r0_39)] w13 w15 := (Kz.md Kw14 Mw15 (tk1 ((pv_1 (A := (fun x => (x = g7_r0_39 ∧ z7_r0_39 ≠ 0) ∨ w13.heap.size ≤ x)) Fw14_1 tk0) : zy13 = 0 ∨ (gy13 = g7_r0_39 ∧ z7_r0_39 ≠ 0) ∨ w13.heap.size ≤ gy13)))
            have B71 := (Bx.md Fw14_2 Mw15 (tk1 ((pv_1 (A := (fun x => x ≠ b8)) Fw14_1 (pv_lt (A := (fun x => x ≠ b8)) lt30)) : zy13 = 0 ∨ gy13 ≠ b8)))
            subst hrec3
            refine ⟨rfl, ⟨n3, w64 (a11 + 1), a12.set a11.toNat (y14 + 1#8), vy13, zy13, gy13⟩, ?_, ⟨hm, Ow15, ⟨(pv_1 (A := (fun x => (x = g7_r0_39 ∧ z7_r0_39 ≠ 0) ∨ w13.heap.size ≤ x)) Fw14_1 tk0)⟩, B71, K_70⟩, Nat.lt_succ_self _⟩
            repeat' first | exact trivial | refine ⟨rfl, ?_⟩
          ·
            replace hm := ite_f (of_decide_eq_false c2) hm
            refine sw_exit ?_
            refine then_x ?_
            refine then_x ?_
            refine block_x ?_
            refine then_n ?_
            refine sw_seq ?_
            refine sw_seq ?_
            -- region 14 law.go:80
            refine sw_region [(0, 0), (1, 0), (2, 0)] rfl rfl rfl ?_
            refine sd_vv rfl rfl rfl (vv_move rfl) ?_
            have B72 := (Own.kz B58 Kw14 (tk2 ((pv_sw (pv_0 (A := (fun x => z5_r0_s = 0 ∨ x ≠ g5_r0_s)) f7_r0_39 (fun x hx => (tk1 lt19.o)))) : z5_r0_s = 0 ∨ z7_r0_39 = 0 ∨ g5_r0_s ≠ g7_r0_39) ((pv_lt (A := (fun x => x ≠ b8)) lt19) : z5_r0_s = 0 ∨ g5_r0_s ≠ b8)))
            refine sd_vv rfl rfl rfl (vv_lenT (l := x3.1) (c := bvc) Try.underlying29 rfl (Own.rd B72)) ?_
            refine sd_vv rfl rfl rfl (vv_move rfl) ?_
            refine sd_done ?_
            refine sw_block ?_
            have X73 : Gr w w14 := (Gr.kz X52 Kw14 (tk1 ((pv_0 (A := (fun x => w.heap.size ≤ x)) f7_r0_39) : z7_r0_39 = 0 ∨ w.heap.size ≤ g7_r0_39)))
            have B74 := (Rd.kz B53 Kw14 (tk2 ((pv_sw (pv_0 (A := (fun x => zp0_2 = 0 ∨ x ≠ gp0_2)) f7_r0_39 (fun x hx => (tk1 lt1.o)))) : zp0_2 = 0 ∨ z7_r0_39 = 0 ∨ gp0_2 ≠ g7_r0_39) ((pv_lt (A := (fun x => x ≠ b8)) lt1) : zp0_2 = 0 ∨ gp0_2 ≠ b8)))
            have B75 := (Rd.kz B54 Kw14 (tk2 ((pv_sw (pv_0 (A := (fun x => zp0_4 = 0 ∨ x ≠ gp0_4)) f7_r0_39 (fun x hx => (tk1 lt2.o)))) : zp0_4 = 0 ∨ z7_r0_39 = 0 ∨ gp0_4 ≠ g7_r0_39) ((pv_lt (A := (fun x => x ≠ b8)) lt2) : zp0_4 = 0 ∨ gp0_4 ≠ b8)))
            have B76 := (Rd.kz B55 Kw14 (tk2 ((pv_sw (pv_0 (A := (fun x => zp0_39 = 0 ∨ x ≠ gp0_39)) f7_r0_39 (fun x hx => (tk1 lt3.o)))) : zp0_39 = 0 ∨ z7_r0_39 = 0 ∨ gp0_39 ≠ g7_r0_39) ((pv_lt (A := (fun x => x ≠ b8)) lt3) : zp0_39 = 0 ∨ gp0_39 ≠ b8)))
            have B77 := (Rd.kz B56 Kw14 (tk2 ((pv_sw (pv_0 (A := (fun x => zp1 = 0 ∨ x ≠ gp1)) f7_r0_39 (fun x hx => (tk1 lt4.o)))) : zp1 = 0 ∨ z7_r0_39 = 0 ∨ gp1 ≠ g7_r0_39) ((pv_lt (A := (fun x => x ≠ b8)) lt4) : zp1 = 0 ∨ gp1 ≠ b8)))
            have B78 := (Own.kz B57 Kw14 (tk2 ((pv_sw (pv_0 (A := (fun x => zw4 = 0 ∨ x ≠ gw4)) f7_r0_39 (fun x hx => (tk1 qw4.o)))) : zw4 = 0 ∨ z7_r0_39 = 0 ∨ gw4 ≠ g7_r0_39) ((pv_lt (A := (fun x => x ≠ b8)) qw4) : zw4 = 0 ∨ gw4 ≠ b8)))
            have B79 := (Own.kz B59 Kw14 (tk2 ((pv_sw (pv_0 (A := (fun x => z6_r0_s = 0 ∨ x ≠ g6_r0_s)) f7_r0_39 (fun x hx => (tk1 lt25.o)))) : z6_r0_s = 0 ∨ z7_r0_39 = 0 ∨ g6_r0_s ≠ g7_r0_39) ((pv_lt (A := (fun x => x ≠ b8)) lt25) : z6_r0_s = 0 ∨ g6_r0_s ≠ b8)))
            have B80 := (Own.kz B60 Kw14 (tk2 ((tk1 d7_1.o) : z7_r0_2 = 0 ∨ z7_r0_39 = 0 ∨ g7_r0_2 ≠ g7_r0_39) ((pv_lt (A := (fun x => x ≠ b8)) lt28) : z7_r0_2 = 0 ∨ g7_r0_2 ≠ b8)))
            have B81 := (Own.kz B61 Kw14 (tk2 ((tk1 d7_2.o) : z7_r0_4 = 0 ∨ z7_r0_39 = 0 ∨ g7_r0_4 ≠ g7_r0_39) ((pv_lt (A := (fun x => x ≠ b8)) lt29) : z7_r0_4 = 0 ∨ g7_r0_4 ≠ b8)))
            have B82 := (Own.kz B62 Kw14 (tk2 ((pv_0 (A := (fun x => z7_r0_39 = 0 ∨ x ≠ g7_r0_39)) f10_r0_2 (fun x hx => (tk1 lt30.o))) : z10_r0_2 = 0 ∨ z7_r0_39 = 0 ∨ g10_r0_2 ≠ g7_r0_39) ((pv_0 (A := (fun x => x ≠ b8)) f10_r0_2) : z10_r0_2 = 0 ∨ g10_r0_2 ≠ b8)))
            have B83 := (Own.kz B63 Kw14 (tk2 ((pv_0 (A := (fun x => z7_r0_39 = 0 ∨ x ≠ g7_r0_39)) f10_r0_4 (fun x hx => (tk1 lt30.o))) : z10_r0_4 = 0 ∨ z7_r0_39 = 0 ∨ g10_r0_4 ≠ g7_r0_39) ((pv_0 (A := (fun x => x ≠ b8)) f10_r0_4) : z10_r0_4 = 0 ∨ g10_r0_4 ≠ b8)))
            have B84 := (Own.kz B64 Kw14 (tk2 ((pv_0 (A := (fun x => z7_r0_39 = 0 ∨ x ≠ g7_r0_39)) f10_r0_39 (fun x hx => (tk1 lt30.o))) : z10_r0_39 = 0 ∨ z7_r0_39 = 0 ∨ g10_r0_39 ≠ g7_r0_39) ((pv_0 (A := (fun x => x ≠ b8)) f10_r0_39) : z10_r0_39 = 0 ∨ g10_r0_39 ≠ b8)))
            refine sw_loopD (α := Nat × List (BitVec 8) × Int × Value × Nat × Nat) [6, 16, 93, 94, 95, 96, 97, 98, 99, 100, 101, 102] (fun ⟨n4, a19, a21, vy20, zy20, gy20⟩ => [(6, vy20), (93, .int .i64 a21)]) (fun ⟨n4, a19, a21, vy20, zy20, gy20⟩ wr => (fixN (law05_EpochCodes_L4 p0 p1 l2 x3 x4 a7) n4 (a19, a21) = some r) ∧ Own wr zy20 gy20 5 1 vy20 (a19.map bvc) ∧ Hdn (zy20 = 0 ∨ (gy20 = g5_r0_s ∧ z5_r0_s ≠ 0) ∨ w14.heap.size ≤ gy20) ∧ Kz [(z5_r0_s, g5_r0_s)] w14 wr) (fun ⟨n4, a19, a21, vy20, zy20, gy20⟩ => n4) ⟨FUEL, x3.1, 0, u5_r0_s, z5_r0_s, g5_r0_s⟩ ?_ ?_ ?_
            · repeat' first | exact trivial | refine ⟨rfl, ?_⟩
            · exact ⟨hm, B72, ⟨tk0⟩, Kz.refl _ _⟩
            · clear hm; rintro ⟨n4, a19, a21, vy20, zy20, gy20⟩ w16 ⟨hm, Fw16_0, Fw16_1, Kw16⟩
              have z85 := Kw16.size
              have lt86 := Fw16_0.lth
              have hb := fix_succ hm; clear hm; obtain ⟨n4, rfl, hm⟩ := hb
              generalize hrec4 : fixN (law05_EpochCodes_L4 p0 p1 l2 x3 x4 a7) n4 = rec4 at hm
              unfold law05_EpochCodes_L4 at hm
              try dsimp only at hm
              refine sw_seq ?_
              -- region 15 law.go:80
              refine sw_region [(0, 0)] rfl rfl rfl ?_
              refine sd_vv rfl rfl rfl (vv_lss (a := a21) (b := (x3.1.length : Int)) rfl rfl) ?_
              refine sd_done ?_
              refine sw_seq ?_
              refine sw_cond rfl (fun c3 => ?_) (fun c3 => ?_)
              ·
                replace hm := ite_t (of_decide_eq_true c3) hm
                refine sw_skip ?_
                refine then_n ?_
                refine sw_seq ?_
                refine sw_block ?_
                refine sw_seq ?_
                -- region 16 law.go:80
                refine sw_region [(0, 0), (1, 0)] rfl rfl rfl ?_
                refine sd_vv rfl rfl rfl (vv_move rfl) ?_
                refine sd_vv rfl rfl rfl (vv_assign rfl) ?_
                refine sd_done ?_
                -- region 17 law.go:81
                refine sw_region [(0, 0), (1, 0), (2, 0), (3, 0), (4, 0), (5, 0), (6, 0)] rfl rfl rfl ?_
                refine sd_vv rfl rfl rfl (vv_move rfl) ?_
                refine sd_vv rfl rfl rfl (vv_move rfl) ?_
                have hb := bnd hm; clear hm; obtain ⟨y22, hy22, hm⟩ := hb
                refine sd_vv rfl rfl rfl (vv_ixT (i := a21) Try.underlying29 (one_5).siz rfl (Own.rd Fw16_0) rfl hy22) ?_
                refine sd_vv rfl rfl rfl (vv_el1T (q := 0) (u := bv y22) one_5 rfl (Own.rd Fw16_0) hy22 (by first | rfl | omega) rfl) ?_
                refine sd_vv rfl rfl rfl (vv_addB (p := y22) (q := 1#8) rfl rfl) ?_
                have hb := bnd hm; clear hm; obtain ⟨y23, hy23, hm⟩ := hb
                refine sd_vv rfl rfl rfl (vv_ixT (i := a21) Try.underlying29 (one_5).siz rfl (Own.rd Fw16_0) rfl hy23) ?_
                have zo87 := Own.z1 Fw16_0 hy23
                refine sd_ev rfl rfl rfl (ev_stEl (i := a21) (q := 0) (a' := y22 + 1#8) (vs := [bv (y22 + 1#8)]) (c := bvc) (one_5).siz rfl rfl rfl rfl rfl Fw16_0 hy23 (by first | rfl | omega) rfl rfl ⟨rfl, rfl⟩) ?_
                rintro _ w17 ⟨Ow17, Mw17⟩
                have z88 := Mw17.size
                refine sd_nil ?_
                refine block_n ?_
                refine then_n ?_
                -- region 18 law.go:80
                refine sw_region [(0, 0), (1, 0)] rfl rfl rfl ?_
                refine sd_vv rfl rfl rfl (vv_add (k := .i64) (a := a21) (b := 1) rfl rfl) ?_
                refine sd_vv rfl rfl rfl (vv_move rfl) ?_
                refine sd_nil ?_
                have K_89 : Kz [(z5_r0_s, g5_r0_s)] w14 w17 := (Kz.md Kw16 Mw17 (tk1 ((pv_1 (A := (fun x => (x = g5_r0_s ∧ z5_r0_s ≠ 0) ∨ w14.heap.size ≤ x)) Fw16_1 tk0) : zy20 = 0 ∨ (gy20 = g5_r0_s ∧ z5_r0_s ≠ 0) ∨ w14.heap.size ≤ gy20)))
                subst hrec4
                refine ⟨rfl, ⟨n4, a19.set a21.toNat (y22 + 1#8), w64 (a21 + 1), vy20, zy20, gy20⟩, ?_, ⟨hm, Ow17, ⟨(pv_1 (A := (fun x => (x = g5_r0_s ∧ z5_r0_s ≠ 0) ∨ w14.heap.size ≤ x)) Fw16_1 tk0)⟩, K_89⟩, Nat.lt_succ_self _⟩
                repeat' first | exact trivial | refine ⟨rfl, ?_⟩
              ·
                replace hm := ite_f (of_decide_eq_false c3) hm
                refine sw_exit ?_
                refine then_x ?_
                refine then_x ?_
                refine block_x ?_
                refine then_n ?_
                refine sw_seq ?_
                -- region 19 law.go:83
                refine sw_region [(0, 0), (1, 0), (2, 0), (3, 0), (4, 0), (5, 0), (6, 0)] rfl rfl rfl ?_
                have B90 := (Bx.kz (Bx.kz (Bx.kz (Bx.md (Bx.gr (Bx.gr (Bx.md (Bx.gr (Bx.gr (Bx.gr B20 Gw6) Gw7) Gw8) Mw9) Gw10) Gw11) Mw12) Kw13) Kw14 (tk1 ((pv_0 (A := (fun x => x ≠ b1)) f7_r0_39) : z7_r0_39 = 0 ∨ g7_r0_39 ≠ b1))) Kw16 (tk1 ((pv_0 (A := (fun x => x ≠ b1)) f5_r0_s) : z5_r0_s = 0 ∨ g5_r0_s ≠ b1)))
                refine sd_vv rfl rfl rfl (vv_loadW agg_31 rfl B90 rfl) ?_
                have B91 := (Rd.kz B74 Kw16 (tk1 ((pv_sw (pv_0 (A := (fun x => zp0_2 = 0 ∨ x ≠ gp0_2)) f5_r0_s (fun x hx => (tk1 lt1.o)))) : zp0_2 = 0 ∨ z5_r0_s = 0 ∨ gp0_2 ≠ g5_r0_s)))
                have B92 := (Rd.kz B75 Kw16 (tk1 ((pv_sw (pv_0 (A := (fun x => zp0_4 = 0 ∨ x ≠ gp0_4)) f5_r0_s (fun x hx => (tk1 lt2.o)))) : zp0_4 = 0 ∨ z5_r0_s = 0 ∨ gp0_4 ≠ g5_r0_s)))
                have B93 := (Rd.kz B76 Kw16 (tk1 ((pv_sw (pv_0 (A := (fun x => zp0_39 = 0 ∨ x ≠ gp0_39)) f5_r0_s (fun x hx => (tk1 lt3.o)))) : zp0_39 = 0 ∨ z5_r0_s = 0 ∨ gp0_39 ≠ g5_r0_s)))
                have hb := bnd hm; clear hm; obtain ⟨x24, hx24, hm⟩ := hb
                refine sd_ev rfl rfl rfl (ev_call en_6 rfl (ref05_Encode_w p0 _ _ _ _ _ _ _ _ _ _ _ _ _ hx24 _ B91 B92 B93)) ?_
                rintro _ w18 ⟨u18_r0_s, z18_r0_s, g18_r0_s, rfl, O18_r0_s, f18_r0_s, Gw18⟩
                have z94 := Gw18.size
                have lt95 := O18_r0_s.lth
                refine sd_vv rfl rfl rfl (vv_move rfl) ?_
                refine sd_vv rfl rfl rfl (vv_extract rfl rfl) ?_
                refine sd_vv rfl rfl rfl (vv_extract rfl rfl) ?_
                refine sd_vv rfl rfl rfl (vv_assign rfl) ?_
                refine sd_vv rfl rfl rfl (vv_assign rfl) ?_
                refine sd_done ?_
                refine sw_seq ?_
                -- region 20 law.go:84
                refine sw_region [(0, 0), (1, 0), (2, 0), (3, 0), (4, 0), (5, 0), (6, 0), (7, 0), (8, 0), (9, 0), (10, 0), (11, 0), (12, 0), (13, 0), (14, 0), (15, 0)] rfl rfl rfl ?_
                refine sd_vv rfl rfl rfl (vv_move rfl) ?_
                refine sd_split rfl rfl rfl (vv_move rfl) (fun c4 => ?_) (fun c4 => ?_)
                ·
                  replace hm := cnd_t c4 hm
                  refine sd_vv rfl rfl rfl (vv_move rfl) ?_
                  have B96 := (Own.gr (Own.kz B78 Kw16 (tk1 ((pv_sw (pv_0 (A := (fun x => zw4 = 0 ∨ x ≠ gw4)) f5_r0_s (fun x hx => (tk1 qw4.o)))) : zw4 = 0 ∨ z5_r0_s = 0 ∨ gw4 ≠ g5_r0_s))) Gw18)
                  refine sd_vv rfl rfl rfl (vv_b2s (l := l2) Try.underlying29 Try.underlying5 Try.underlying9 rfl (Own.rd B96)) ?_
                  refine sd_vv rfl rfl rfl (vv_move rfl) ?_
                  have B97 := (Rd.gr (Rd.kz B77 Kw16 (tk1 ((pv_sw (pv_0 (A := (fun x => zp1 = 0 ∨ x ≠ gp1)) f5_r0_s (fun x hx => (tk1 lt4.o)))) : zp1 = 0 ∨ z5_r0_s = 0 ∨ gp1 ≠ g5_r0_s))) Gw18)
                  refine sd_vv rfl rfl rfl (vv_b2s (l := p1) Try.underlying29 Try.underlying5 Try.underlying9 rfl B97) ?_
                  refine sd_vv rfl rfl rfl (vv_eqlT (l := l2) (m := p1) rfl rfl) ?_
                  refine sd_vv rfl rfl rfl (vv_pickT rfl rfl) ?_
                  refine sd_split rfl rfl rfl (vv_move rfl) (fun c5 => ?_) (fun c5 => ?_)
                  ·
                    replace hm := ite_t (of_decide_eq_true c5) hm
                    refine sd_vv rfl rfl rfl (vv_move rfl) ?_
                    refine sd_vv rfl rfl rfl (vv_b2s (l := x24.1) Try.underlying29 Try.underlying5 Try.underlying9 rfl (Own.rd O18_r0_s)) ?_
                    refine sd_vv rfl rfl rfl (vv_move rfl) ?_
                    have B98 := (Own.gr (Own.kz B79 Kw16 (tk1 ((pv_0 (A := (fun x => z5_r0_s = 0 ∨ x ≠ g5_r0_s)) f6_r0_s (fun x hx => (tk1 lt19.o))) : z6_r0_s = 0 ∨ z5_r0_s = 0 ∨ g6_r0_s ≠ g5_r0_s))) Gw18)
                    refine sd_vv rfl rfl rfl (vv_b2s (l := x4.1) Try.underlying29 Try.underlying5 Try.underlying9 rfl (Own.rd B98)) ?_
                    refine sd_vv rfl rfl rfl (vv_eqlT (l := x24.1) (m := x4.1) rfl rfl) ?_
                    refine sd_vv rfl rfl rfl (vv_pickT rfl rfl) ?_
                    refine sd_vv rfl rfl rfl (vv_assign rfl) ?_
                    refine sd_done ?_
                    refine sw_ret ?_
                    have X99 : Gr w w18 := (Gr.trans (Gr.kz X73 Kw16 (tk1 ((pv_0 (A := (fun x => w.heap.size ≤ x)) f5_r0_s) : z5_r0_s = 0 ∨ w.heap.size ≤ g5_r0_s))) Gw18)
                    have hr := Option.some.inj hm
                    subst hr
                    refine ⟨_, _, rfl, res_1 rfl (rv_tmp rfl), ?_⟩
                    exact ⟨rfl, X99⟩
                  ·
                    replace hm := ite_f (of_decide_eq_false c5) hm
                    refine sd_skip rfl rfl rfl ?_
                    refine sd_skip rfl rfl rfl ?_
                    refine sd_skip rfl rfl rfl ?_
                    refine sd_skip rfl rfl rfl ?_
                    refine sd_skip rfl rfl rfl ?_
                    refine sd_vv rfl rfl rfl (vv_pickF rfl rfl) ?_
                    refine sd_vv rfl rfl rfl (vv_assign rfl) ?_
                    refine sd_done ?_
                    refine sw_ret ?_
                    have X100 : Gr w w18 := (Gr.trans (Gr.kz X73 Kw16 (tk1 ((pv_0 (A := (fun x => w.heap.size ≤ x)) f5_r0_s) : z5_r0_s = 0 ∨ w.heap.size ≤ g5_r0_s))) Gw18)
                    have hr := Option.some.inj hm
                    subst hr
                    refine ⟨_, _, rfl, res_1 rfl (rv_tmp rfl), ?_⟩
                    exact ⟨rfl, X100⟩
                ·
                  replace hm := cnd_f c4 hm
                  refine sd_skip rfl rfl rfl ?_
                  refine sd_skip rfl rfl rfl ?_
                  refine sd_skip rfl rfl rfl ?_
                  refine sd_skip rfl rfl rfl ?_
                  refine sd_skip rfl rfl rfl ?_
                  refine sd_vv rfl rfl rfl (vv_pickF rfl rfl) ?_
                  refine sd_vv rfl rfl rfl (vv_move rfl) ?_
                  refine sd_skip rfl rfl rfl ?_
                  refine sd_skip rfl rfl rfl ?_
                  refine sd_skip rfl rfl rfl ?_
                  refine sd_skip rfl rfl rfl ?_
                  refine sd_skip rfl rfl rfl ?_
                  refine sd_vv rfl rfl rfl (vv_pickF rfl rfl) ?_
                  refine sd_vv rfl rfl rfl (vv_assign rfl) ?_
                  refine sd_done ?_
                  refine sw_ret ?_
                  have X101 : Gr w w18 := (Gr.trans (Gr.kz X73 Kw16 (tk1 ((pv_0 (A := (fun x => w.heap.size ≤ x)) f5_r0_s) : z5_r0_s = 0 ∨ w.heap.size ≤ g5_r0_s))) Gw18)
                  have hr := Option.some.inj hm
                  subst hr
                  refine ⟨_, _, rfl, res_1 rfl (rv_tmp rfl), ?_⟩
                  exact ⟨rfl, X101⟩
      ·
        -- region 8 law.go:76 DRAWS
        refine sw_drawN [([])] [] (.leaf [(0, 10), (2, 10), (1, 0), (3, 0), (4, 10), (5, 10), (6, 10), (7, 10), (8, 10), (9, 10), (10, 10), (11, 10), (12, 10), (13, 10), (14, 10), (15, 10), (16, 10), (17, 10), (18, 10), (19, 10), (20, 0), (21, 10), (22, 10), (23, 10), (24, 10), (25, 10), (26, 10), (27, 10)]) (by kernel_rfl) (by kernel_rfl) rfl (by kernel_rfl) ?_
        intro w19 Gw19 zw19
        refine sdz_leaf ?_
        have B102 := (Bx.gr (Bx.md (Bx.gr (Bx.gr (Bx.md (Bx.gr (Bx.gr (Bx.gr B20 Gw6) Gw7) Gw8) Mw9) Gw10) Gw11) Mw12) Gw19)
        refine dd_hn 0 rfl rfl rfl rfl (Kp.refl ([]) w19) (fun w hS => vv_loadW agg_31 rfl (Bx.kp B102 hS) rfl) ?_
        refine dd_hn 0 rfl rfl rfl rfl (Kp.refl ([]) w19) (fun w hS => vv_loadW agg_31 rfl (Bx.kp B102 hS) rfl) ?_
        have B103 := (Rd.gr (Rd.md (Rd.gr (Rd.gr (Rd.md (Rd.gr (Rd.gr (Rd.gr B21 Gw6) Gw7) Gw8) Mw9 (tk1 ((pv_lt (A := (fun x => x ≠ b8)) lt1) : zp0_2 = 0 ∨ gp0_2 ≠ b8))) Gw10) Gw11) Mw12 (tk1 ((pv_lt (A := (fun x => x ≠ b11)) lt1) : zp0_2 = 0 ∨ gp0_2 ≠ b11))) Gw19)
        have B104 := (Rd.gr (Rd.md (Rd.gr (Rd.gr (Rd.md (Rd.gr (Rd.gr (Rd.gr B22 Gw6) Gw7) Gw8) Mw9 (tk1 ((pv_lt (A := (fun x => x ≠ b8)) lt2) : zp0_4 = 0 ∨ gp0_4 ≠ b8))) Gw10) Gw11) Mw12 (tk1 ((pv_lt (A := (fun x => x ≠ b11)) lt2) : zp0_4 = 0 ∨ gp0_4 ≠ b11))) Gw19)
        have B105 := (Rd.gr (Rd.md (Rd.gr (Rd.gr (Rd.md (Rd.gr (Rd.gr (Rd.gr B23 Gw6) Gw7) Gw8) Mw9 (tk1 ((pv_lt (A := (fun x => x ≠ b8)) lt3) : zp0_39 = 0 ∨ gp0_39 ≠ b8))) Gw10) Gw11) Mw12 (tk1 ((pv_lt (A := (fun x => x ≠ b11)) lt3) : zp0_39 = 0 ∨ gp0_39 ≠ b11))) Gw19)
        have hb := bnd hm; clear hm; obtain ⟨x25, hx25, hm⟩ := hb
        refine dd_z [] rfl rfl rfl (ev_call en_9 rfl (epoch_CheckPacket_w p0 _ _ _ _ _ _ _ _ _ _ _ _ _ hx25 _ B103 B104 B105)) ⟨fun _ => tk0, trivial⟩ ?_
        rintro _ w20 ⟨rfl, Gw20⟩
        have z106 := Gw20.size
        refine ⟨Kz.ofGr Gw20, ?_⟩
        have B107 := (Rd.gr B103 Gw20)
        have B108 := (Rd.gr B104 Gw20)
        have B109 := (Rd.gr B105 Gw20)
        have hb := bnd hm; clear hm; obtain ⟨x26, hx26, hm⟩ := hb
        refine dd_z [] rfl rfl rfl (ev_call en_10 rfl (ref05_CheckPacket_w p0 _ _ _ _ _ _ _ _ _ _ _ _ _ hx26 _ B107 B108 B109)) ⟨fun _ => tk0, trivial⟩ ?_
        rintro _ w21 ⟨rfl, Gw21⟩
        have z110 := Gw21.size
        refine ⟨Kz.ofGr Gw21, ?_⟩
        have S111 := (Kp.gr (Kp.gr (Kp.refl ([]) w19) Gw20) Gw21)
        refine dd_hn 0 rfl rfl rfl rfl S111 (fun w hS => vv_eql (a := x25) (b := x26) rfl rfl) ?_
        refine dd_pn 0 rfl rfl rfl rfl S111 (fun w hS => vv_move rfl) (fun c6 => ?_) (fun c6 => ?_)
        ·
          replace hm := ite_t (of_decide_eq_true c6) hm
          refine dd_hn 0 rfl rfl rfl rfl S111 (fun w hS => vv_move rfl) ?_
          have B112 := (Own.gr (Own.md (Own.gr (Own.gr (Own.md (Own.gr (Own.gr (Own.gr O5_r0_s Gw6) Gw7) Gw8) Mw9 (tk1 ((pv_lt (A := (fun x => x ≠ b8)) lt19) : z5_r0_s = 0 ∨ g5_r0_s ≠ b8))) Gw10) Gw11) Mw12 (tk1 ((pv_lt (A := (fun x => x ≠ b11)) lt19) : z5_r0_s = 0 ∨ g5_r0_s ≠ b11))) Gw19)
          refine dd_hn 0 rfl rfl rfl rfl S111 (fun w hS => vv_b2s (l := x3.1) Try.underlying29 Try.underlying5 Try.underlying9 rfl (Own.rd (Own.kp B112 hS))) ?_
          refine dd_hn 0 rfl rfl rfl rfl S111 (fun w hS => vv_move rfl) ?_
          have B113 := (Own.gr (Own.md (Own.gr (Own.gr (Own.md (Own.gr (Own.gr O6_r0_s Gw7) Gw8) Mw9 (tk1 ((pv_lt (A := (fun x => x ≠ b8)) lt25) : z6_r0_s = 0 ∨ g6_r0_s ≠ b8))) Gw10) Gw11) Mw12 (tk1 ((pv_lt (A := (fun x => x ≠ b11)) lt25) : z6_r0_s = 0 ∨ g6_r0_s ≠ b11))) Gw19)
          refine dd_hn 0 rfl rfl rfl rfl S111 (fun w hS => vv_b2s (l := x4.1) Try.underlying29 Try.underlying5 Try.underlying9 rfl (Own.rd (Own.kp B113 hS))) ?_
          refine dd_hn 0 rfl rfl rfl rfl S111 (fun w hS => vv_eqlT (l := x3.1) (m := x4.1) rfl rfl) ?_
          refine dd_hn 0 rfl rfl rfl rfl S111 (fun w hS => vv_pickT rfl rfl) ?_
          refine dd_pn 0 rfl rfl rfl rfl S111 (fun w hS => vv_move rfl) (fun c7 => ?_) (fun c7 => ?_)
          ·
            replace hm := ite_t (of_decide_eq_true c7) hm
            refine dd_hn 0 rfl rfl rfl rfl S111 (fun w hS => vv_move rfl) ?_
            refine dd_hn 0 rfl rfl rfl rfl S111 (fun w hS => vv_move rfl) ?_
            refine dd_hn 0 rfl rfl rfl rfl S111 (fun w hS => vv_eql (a := x3.2) (b := x4.2) rfl rfl) ?_
            refine dd_hn 0 rfl rfl rfl rfl S111 (fun w hS => vv_pickT rfl rfl) ?_
            refine dd_pn 0 rfl rfl rfl rfl S111 (fun w hS => vv_move rfl) (fun c8 => ?_) (fun c8 => ?_)
            ·
              replace hm := ite_t (of_decide_eq_true c8) hm
              have B114 := (Bx.gr (Bx.md (Bx.gr (Bx.gr Bw9 Gw10) Gw11) Mw12) Gw19)
              refine dd_hn 0 rfl rfl rfl rfl S111 (fun w hS => vv_loadW agg_31 rfl (Bx.kp B114 hS) rfl) ?_
              have B115 := (Bx.gr Bw12 Gw19)
              refine dd_hn 0 rfl rfl rfl rfl S111 (fun w hS => vv_loadW agg_31 rfl (Bx.kp B115 hS) rfl) ?_
              have B116 := (Own.gr (Own.gr (Own.gr (Own.md (Own.gr (Own.gr (Own.md B33 Mw9 (tk1 ((pv_lt (A := (fun x => x ≠ b8)) lt28) : z7_r0_2 = 0 ∨ g7_r0_2 ≠ b8))) Gw10) Gw11) Mw12 (tk1 ((pv_lt (A := (fun x => x ≠ b11)) lt28) : z7_r0_2 = 0 ∨ g7_r0_2 ≠ b11))) Gw19) Gw20) Gw21)
              have B117 := (Own.gr (Own.gr (Own.gr (Own.md (Own.gr (Own.gr (Own.md B34 Mw9 (tk1 ((pv_lt (A := (fun x => x ≠ b8)) lt29) : z7_r0_4 = 0 ∨ g7_r0_4 ≠ b8))) Gw10) Gw11) Mw12 (tk1 ((pv_lt (A := (fun x => x ≠ b11)) lt29) : z7_r0_4 = 0 ∨ g7_r0_4 ≠ b11))) Gw19) Gw20) Gw21)
              have B118 := (Own.gr (Own.gr (Own.gr (Own.md (Own.gr (Own.gr (Own.md B35 Mw9 (tk1 ((pv_lt (A := (fun x => x ≠ b8)) lt30) : z7_r0_39 = 0 ∨ g7_r0_39 ≠ b8))) Gw10) Gw11) Mw12 (tk1 ((pv_lt (A := (fun x => x ≠ b11)) lt30) : z7_r0_39 = 0 ∨ g7_r0_39 ≠ b11))) Gw19) Gw20) Gw21)
              have B119 := (Own.gr (Own.gr (Own.gr (Own.md B44 Mw12 (tk1 ((pv_lt (A := (fun x => x ≠ b11)) lt39) : z10_r0_2 = 0 ∨ g10_r0_2 ≠ b11))) Gw19) Gw20) Gw21)
              have B120 := (Own.gr (Own.gr (Own.gr (Own.md B45 Mw12 (tk1 ((pv_lt (A := (fun x => x ≠ b11)) lt40) : z10_r0_4 = 0 ∨ g10_r0_4 ≠ b11))) Gw19) Gw20) Gw21)
              have B121 := (Own.gr (Own.gr (Own.gr (Own.md B46 Mw12 (tk1 ((pv_lt (A := (fun x => x ≠ b11)) lt41) : z10_r0_39 = 0 ∨ g10_r0_39 ≠ b11))) Gw19) Gw20) Gw21)
              have hb := bnd hm; clear hm; obtain ⟨x27, hx27, hm⟩ := hb
              refine dd_z [] rfl rfl rfl (ev_call en_11 rfl (ref05_SamePacket_w x5.1 x6.1 _ _ _ _ _ _ _ _ _ _ _ _ _ _ _ _ _ _ _ _ _ _ _ _ _ hx27 _ (Own.rd B116) (Own.rd B117) (Own.rd B118) (Own.rd B119) (Own.rd B120) (Own.rd B121))) ⟨fun _ => tk0, trivial⟩ ?_
              rintro _ w22 ⟨rfl, Gw22⟩
              have z122 := Gw22.size
              refine ⟨Kz.ofGr Gw22, ?_⟩
              have S123 := (Kp.gr S111 Gw22)
              refine dd_hn 0 rfl rfl rfl rfl S123 (fun w hS => vv_pickT rfl rfl) ?_
              refine dd_pn 0 rfl rfl rfl rfl S123 (fun w hS => vv_move rfl) (fun c9 => ?_) (fun c9 => ?_)
              ·
                replace hm := cnd_t c9 hm
                refine dd_hn 0 rfl rfl rfl rfl S123 (fun w hS => vv_move rfl) ?_
                refine dd_hn 0 rfl rfl rfl rfl S123 (fun w hS => vv_move rfl) ?_
                refine dd_hn 0 rfl rfl rfl rfl S123 (fun w hS => vv_eql (a := x5.2) (b := x6.2) rfl rfl) ?_
                refine dd_hn 0 rfl rfl rfl rfl S123 (fun w hS => vv_pickT rfl rfl) ?_
                refine dd_hn 0 rfl rfl rfl rfl S123 (fun w hS => vv_assign rfl) ?_
                refine sd_nil ?_
                have K_124 : Kz [] w12 w22 := (Kz.gr (Kz.gr (Kz.gr (Kz.gr (Kz.refl _ _) Gw19) Gw20) Gw21) Gw22)
                refine ⟨rfl, (decide (x5.2 = x6.2)), ?_, hm, K_124⟩
                repeat' first | exact trivial | refine ⟨rfl, ?_⟩
              ·
                replace hm := cnd_f c9 hm
                refine dd_sn 0 rfl rfl rfl rfl S123 ?_
                refine dd_sn 0 rfl rfl rfl rfl S123 ?_
                refine dd_sn 0 rfl rfl rfl rfl S123 ?_
                refine dd_hn 0 rfl rfl rfl rfl S123 (fun w hS => vv_pickF rfl rfl) ?_
                refine dd_hn 0 rfl rfl rfl rfl S123 (fun w hS => vv_assign rfl) ?_
                refine sd_nil ?_
                have K_125 : Kz [] w12 w22 := (Kz.gr (Kz.gr (Kz.gr (Kz.gr (Kz.refl _ _) Gw19) Gw20) Gw21) Gw22)
                refine ⟨rfl, false, ?_, hm, K_125⟩
                repeat' first | exact trivial | refine ⟨rfl, ?_⟩
            ·
              replace hm := ite_f (of_decide_eq_false c8) hm
              refine dd_sn 0 rfl rfl rfl rfl S111 ?_
              refine dd_sn 0 rfl rfl rfl rfl S111 ?_
              refine dd_sz rfl rfl rfl ?_
              refine dd_hn 0 rfl rfl rfl rfl S111 (fun w hS => vv_pickF rfl rfl) ?_
              refine dd_hn 0 rfl rfl rfl rfl S111 (fun w hS => vv_move rfl) ?_
              refine dd_sn 0 rfl rfl rfl rfl S111 ?_
              refine dd_sn 0 rfl rfl rfl rfl S111 ?_
              refine dd_sn 0 rfl rfl rfl rfl S111 ?_
              refine dd_hn 0 rfl rfl rfl rfl S111 (fun w hS => vv_pickF rfl rfl) ?_
              refine dd_hn 0 rfl rfl rfl rfl S111 (fun w hS => vv_assign rfl) ?_
              refine sd_nil ?_
              have K_126 : Kz [] w12 w21 := (Kz.gr (Kz.gr (Kz.gr (Kz.refl _ _) Gw19) Gw20) Gw21)
              refine ⟨rfl, false, ?_, hm, K_126⟩
              repeat' first | exact trivial | refine ⟨rfl, ?_⟩
          ·
            replace hm := ite_f (of_decide_eq_false c7) hm
            refine dd_sn 0 rfl rfl rfl rfl S111 ?_
            refine dd_sn 0 rfl rfl rfl rfl S111 ?_
            refine dd_sn 0 rfl rfl rfl rfl S111 ?_
            refine dd_hn 0 rfl rfl rfl rfl S111 (fun w hS => vv_pickF rfl rfl) ?_
            refine dd_hn 0 rfl rfl rfl rfl S111 (fun w hS => vv_move rfl) ?_
            refine dd_sn 0 rfl rfl rfl rfl S111 ?_
            refine dd_sn 0 rfl rfl rfl rfl S111 ?_
            refine dd_sz rfl rfl rfl ?_
            refine dd_hn 0 rfl rfl rfl rfl S111 (fun w hS => vv_pickF rfl rfl) ?_
            refine dd_hn 0 rfl rfl rfl rfl S111 (fun w hS => vv_move rfl) ?_
            refine dd_sn 0 rfl rfl rfl rfl S111 ?_
            refine dd_sn 0 rfl rfl rfl rfl S111 ?_
            refine dd_sn 0 rfl rfl rfl rfl S111 ?_
            refine dd_hn 0 rfl rfl rfl rfl S111 (fun w hS => vv_pickF rfl rfl) ?_
            refine dd_hn 0 rfl rfl rfl rfl S111 (fun w hS => vv_assign rfl) ?_
            refine sd_nil ?_
            have K_127 : Kz [] w12 w21 := (Kz.gr (Kz.gr (Kz.gr (Kz.refl _ _) Gw19) Gw20) Gw21)
            refine ⟨rfl, false, ?_, hm, K_127⟩
            repeat' first | exact trivial | refine ⟨rfl, ?_⟩
        ·
          replace hm := ite_f (of_decide_eq_false c6) hm
          refine dd_sn 0 rfl rfl rfl rfl S111 ?_
          refine dd_sn 0 rfl rfl rfl rfl S111 ?_
          refine dd_sn 0 rfl rfl rfl rfl S111 ?_
          refine dd_sn 0 rfl rfl rfl rfl S111 ?_
          refine dd_sn 0 rfl rfl rfl rfl S111 ?_
          refine dd_hn 0 rfl rfl rfl rfl S111 (fun w hS => vv_pickF rfl rfl) ?_
          refine dd_hn 0 rfl rfl rfl rfl S111 (fun w hS => vv_move rfl) ?_
          refine dd_sn 0 rfl rfl rfl rfl S111 ?_
          refine dd_sn 0 rfl rfl rfl rfl S111 ?_
          refine dd_sn 0 rfl rfl rfl rfl S111 ?_
          refine dd_hn 0 rfl rfl rfl rfl S111 (fun w hS => vv_pickF rfl rfl) ?_
          refine dd_hn 0 rfl rfl rfl rfl S111 (fun w hS => vv_move rfl) ?_
          refine dd_sn 0 rfl rfl rfl rfl S111 ?_
          refine dd_sn 0 rfl rfl rfl rfl S111 ?_
          refine dd_sz rfl rfl rfl ?_
          refine dd_hn 0 rfl rfl rfl rfl S111 (fun w hS => vv_pickF rfl rfl) ?_
          refine dd_hn 0 rfl rfl rfl rfl S111 (fun w hS => vv_move rfl) ?_
          refine dd_sn 0 rfl rfl rfl rfl S111 ?_
          refine dd_sn 0 rfl rfl rfl rfl S111 ?_
          refine dd_sn 0 rfl rfl rfl rfl S111 ?_
          refine dd_hn 0 rfl rfl rfl rfl S111 (fun w hS => vv_pickF rfl rfl) ?_
          refine dd_hn 0 rfl rfl rfl rfl S111 (fun w hS => vv_assign rfl) ?_
          refine sd_nil ?_
          have K_128 : Kz [] w12 w21 := (Kz.gr (Kz.gr (Kz.gr (Kz.refl _ _) Gw19) Gw20) Gw21)
          refine ⟨rfl, false, ?_, hm, K_128⟩
          repeat' first | exact trivial | refine ⟨rfl, ?_⟩
  ·
    -- region 1 law.go:68
    refine sw_region [(0, 0), (1, 0), (2, 0), (3, 0), (4, 0), (5, 0), (6, 0), (7, 0)] rfl rfl rfl ?_
    refine sd_vv rfl rfl rfl (vv_build (cs := TSecret.cs (TSecret.mk 0 [] (TPoint.mk 0#64 0#64)) (.slice none 0 0)) bs_37 rfl rfl) ?_
    refine sd_vv rfl rfl rfl (vv_loadW agg_31 rfl Bw1 rfl) ?_
    have B129 := (Rd.gr hp0_2 Gw1)
    have B130 := (Rd.gr hp0_4 Gw1)
    have B131 := (Rd.gr hp0_39 Gw1)
    have hb := bnd hm; clear hm; obtain ⟨x28, hx28, hm⟩ := hb
    refine sd_ev rfl rfl rfl (ev_call en_4 rfl (ref05_Great_w (TSecret.mk 0 [] (TPoint.mk 0#64 0#64)) p0 _ _ _ _ _ _ _ _ _ _ _ _ _ _ _ _ _ hx28 _ (Own.rd (own_nil _ 0 101 18)) B129 B130 B131)) ?_
    rintro _ w23 ⟨rfl, Gw23⟩
    have z132 := Gw23.size
    refine sd_split rfl rfl rfl (vv_move rfl) (fun c10 => ?_) (fun c10 => ?_)
    ·
      replace hm := cnd_t c10 hm
      refine sd_skip rfl rfl rfl ?_
      refine sd_skip rfl rfl rfl ?_
      refine sd_skip rfl rfl rfl ?_
      refine sd_vv rfl rfl rfl (vv_pickT rfl rfl) ?_
      refine sd_nil ?_
      have K_133 : Kz [] w1 w23 := (Kz.gr (Kz.refl _ _) Gw23)
      refine ⟨rfl, true, ?_, hm, K_133⟩
      repeat' first | exact trivial | refine ⟨rfl, ?_⟩
    ·
      replace hm := cnd_f c10 hm
      refine sd_vv rfl rfl rfl (vv_move rfl) ?_
      have B134 := (Rd.gr (Rd.gr hp1 Gw1) Gw23)
      refine sd_vv rfl rfl rfl (vv_lenT (l := p1) (c := bvc) Try.underlying29 rfl B134) ?_
      refine sd_vv rfl rfl rfl (vv_gtr (a := (p1.length : Int)) (b := 3000) rfl rfl) ?_
      refine sd_vv rfl rfl rfl (vv_pickF rfl rfl) ?_
      refine sd_nil ?_
      have K_135 : Kz [] w1 w23 := (Kz.gr (Kz.refl _ _) Gw23)
      refine ⟨rfl, (decide ((3000 : Int) < (p1.length : Int))), ?_, hm, K_135⟩
      repeat' first | exact trivial | refine ⟨rfl, ?_⟩
end Go.Proofs.Ytjdffpglgkefmaa.Mx
