/- Walks that follow mirrors: Co. Printed by mx.py. -/
import Derived.Test.YtecempahccgijaaWv
import Derived.Test.YtecempahccgijaaCoM
set_option linter.unusedVariables false
set_option linter.unusedSimpArgs false
set_option maxRecDepth 100000
namespace Go.Proofs.Ytecempahccgijaa.Mx
open Go Go.RowKit Go.Sx
theorem bsl_61_0 : BSl Try.prog 61 0 3 1 [] := bsl_nil Try.underlying61 (one_3).siz
theorem en_54 : En Try.prog 54 := fun _ _ => by kernel_rfl
theorem en_55 : En Try.prog 55 := fun _ _ => by kernel_rfl
theorem en_30 : En Try.prog 30 := fun _ _ => by kernel_rfl
theorem en_37 : En Try.prog 37 := fun _ _ => by kernel_rfl

set_option maxHeartbeats 2000000 in
theorem law03_CoverCovers_w (p0 : TScheme) (p1 : List Int) (vp1 : Value) (zp1 gp1 op1 : Nat) (r : Bool) (hm : law03_CoverCovers p0 p1 = some r) (w : World) (hp1 : Rd w zp1 gp1 op1 1 vp1 (p1.map ic))  :
    Calls Try.prog 10 [.agg (TScheme.cs p0).toArray, vp1].toArray w fun e w' => ∃ v, e = .returned v ∧ (v = .bool r ∧ Gr w w') := by
  have lt1 := hp1.lth
  unfold law03_CoverCovers at hm
  refine calls_of_sw (R := fun v w' => v = .bool r ∧ Gr w w') 38 Try.func10 rfl rfl rfl ?_
  refine sw_seq ?_
  -- region 0 law.go:23
  refine sw_region [(0, 0), (1, 0)] rfl rfl rfl ?_
  refine sd_ev rfl rfl rfl (ev_box (cs := TScheme.cs p0) rfl rfl) ?_
  rintro _ w1 ⟨b1, rfl, hbw1, Bw1, Gw1⟩
  have z2 := Gw1.size
  have lt3 := Bw1.lt
  refine sd_vv rfl rfl rfl (vv_assign rfl) ?_
  refine sd_done ?_
  refine sw_seq ?_
  -- region 1 law.go:24
  refine sw_region [(0, 0), (1, 0), (2, 0), (3, 0)] rfl rfl rfl ?_
  refine sd_ev rfl rfl rfl (ev_litT ([] : List Int) ic bsl_61_0 rfl rfl (ws_of rfl) rfl rfl rfl) ?_
  rintro vw2 w2 ⟨gw2, hbw2, Ow2, Gw2⟩
  have z4 := Gw2.size
  have lt5 := Ow2.lth
  refine sd_vv rfl rfl rfl (vv_move rfl) ?_
  have B6 := (Rd.gr (Rd.gr hp1 Gw1) Gw2)
  have hb := bnd hm; clear hm; obtain ⟨l1, hl1, hm⟩ := hb
  refine sd_ev rfl rfl rfl (ev_appT (l := ([] : List Int)) (m := p1) (c := ic) apt_61 rfl rfl Ow2 B6 hl1 (by decide)) ?_
  rintro vw3 w3 ⟨zw3, gw3, Ow3, Aw3, qw3, rw3⟩
  have z7 := Aw3.size
  refine sd_vv rfl rfl rfl (vv_assign rfl) ?_
  refine sd_done ?_
  refine sw_seq ?_
  -- region 2 law.go:25
  refine sw_region [(0, 0), (1, 0), (2, 0), (3, 0), (4, 0), (5, 0), (6, 0), (7, 0)] rfl rfl rfl ?_
  have B8 := (Bx.ka (Bx.gr Bw1 Gw2) Aw3 (tk1 ((.inr tk0) : 1 = 0 ∨ gw2 ≠ b1)))
  refine sd_vv rfl rfl rfl (vv_loadW agg_45 rfl B8 rfl) ?_
  refine sd_vv rfl rfl rfl (vv_move rfl) ?_
  have hb := bnd hm; clear hm; obtain ⟨x2, hx2, hm⟩ := hb
  refine sd_ev rfl rfl rfl (ev_call en_54 rfl (cover_Cover_w p0 l1 _ _ _ _ _ hx2 _ (Own.rd Ow3))) ?_
  rintro _ w4 ⟨u4_r0_s, z4_r0_s, g4_r0_s, rfl, O4_r0_s, f4_r0_s, Gw4⟩
  have z9 := Gw4.size
  have lt10 := O4_r0_s.lth
  refine sd_vv rfl rfl rfl (vv_move rfl) ?_
  refine sd_vv rfl rfl rfl (vv_extract rfl rfl) ?_
  refine sd_vv rfl rfl rfl (vv_extract rfl rfl) ?_
  refine sd_vv rfl rfl rfl (vv_assign rfl) ?_
  refine sd_vv rfl rfl rfl (vv_assign rfl) ?_
  refine sd_done ?_
  refine sw_seq ?_
  -- region 3 law.go:26
  refine sw_region [(0, 0), (1, 0), (2, 0), (3, 0), (4, 0), (5, 0), (6, 0), (7, 0)] rfl rfl rfl ?_
  have B11 := (Bx.gr B8 Gw4)
  refine sd_vv rfl rfl rfl (vv_loadW agg_45 rfl B11 rfl) ?_
  refine sd_vv rfl rfl rfl (vv_move rfl) ?_
  have B12 := (Rd.gr (Rd.ka B6 Aw3 (tk1 ((pv_sw (.inr (tk1 lt1.o))) : zp1 = 0 ∨ 1 = 0 ∨ gp1 ≠ gw2))) Gw4)
  have hb := bnd hm; clear hm; obtain ⟨x3, hx3, hm⟩ := hb
  refine sd_ev rfl rfl rfl (ev_call en_55 rfl (ref03_Cover_w p0 p1 _ _ _ _ _ hx3 _ B12)) ?_
  rintro _ w5 ⟨u5_r0_s, z5_r0_s, g5_r0_s, rfl, O5_r0_s, f5_r0_s, Gw5⟩
  have z13 := Gw5.size
  have lt14 := O5_r0_s.lth
  refine sd_vv rfl rfl rfl (vv_move rfl) ?_
  refine sd_vv rfl rfl rfl (vv_extract rfl rfl) ?_
  refine sd_vv rfl rfl rfl (vv_extract rfl rfl) ?_
  refine sd_vv rfl rfl rfl (vv_assign rfl) ?_
  refine sd_vv rfl rfl rfl (vv_assign rfl) ?_
  refine sd_done ?_
  refine sw_seq ?_
  -- region 4 law.go:27
  refine sw_region [(0, 0), (1, 0), (2, 0), (3, 0), (4, 0), (5, 0), (6, 0), (7, 0), (8, 0), (9, 0), (10, 0), (11, 0), (12, 0), (13, 0)] rfl rfl rfl ?_
  refine sd_vv rfl rfl rfl (vv_move rfl) ?_
  refine sd_vv rfl rfl rfl (vv_move rfl) ?_
  have B15 := (Own.gr O4_r0_s Gw5)
  have hb := bnd hm; clear hm; obtain ⟨x4, hx4, hm⟩ := hb
  refine sd_ev rfl rfl rfl (ev_call en_30 rfl (ref03_SameSubsets_w x2.1 x3.1 _ _ _ _ _ _ _ _ _ hx4 _ (Own.rd B15) (Own.rd O5_r0_s))) ?_
  rintro _ w6 ⟨rfl, Gw6⟩
  have z16 := Gw6.size
  refine sd_split rfl rfl rfl (vv_move rfl) (fun c1 => ?_) (fun c1 => ?_)
  ·
    replace hm := cnd_t c1 hm
    refine sd_vv rfl rfl rfl (vv_move rfl) ?_
    refine sd_vv rfl rfl rfl (vv_move rfl) ?_
    refine sd_vv rfl rfl rfl (vv_eql (a := x2.2) (b := x3.2) rfl rfl) ?_
    refine sd_vv rfl rfl rfl (vv_pickT rfl rfl) ?_
    refine sd_split rfl rfl rfl (vv_move rfl) (fun c2 => ?_) (fun c2 => ?_)
    ·
      replace hm := ite_t (of_decide_eq_true c2) hm
      refine sd_vv rfl rfl rfl (vv_move rfl) ?_
      refine sd_vv rfl rfl rfl (vv_move rfl) ?_
      have B17 := (Own.gr (Own.gr (Own.gr Ow3 Gw4) Gw5) Gw6)
      have B18 := (Rd.gr (Rd.gr B12 Gw5) Gw6)
      have hb := bnd hm; clear hm; obtain ⟨x5, hx5, hm⟩ := hb
      refine sd_ev rfl rfl rfl (ev_call en_37 rfl (ref03_SameInts_w l1 p1 _ _ _ _ _ _ _ _ _ hx5 _ (Own.rd B17) B18)) ?_
      rintro _ w7 ⟨rfl, Gw7⟩
      have z19 := Gw7.size
      refine sd_vv rfl rfl rfl (vv_pickT rfl rfl) ?_
      refine sd_vv rfl rfl rfl (vv_assign rfl) ?_
      refine sd_done ?_
      refine sw_ret ?_
      have X20 : Gr w w7 := (Gr.trans (Gr.trans (Gr.trans (Gr.trans (Gr.ka (Gr.trans (Gr.trans (Gr.refl w) Gw1) Gw2) Aw3 (tk1 ((.inr tk0) : 1 = 0 ∨ w.heap.size ≤ gw2))) Gw4) Gw5) Gw6) Gw7)
      have hr := Option.some.inj hm
      subst hr
      refine ⟨_, _, rfl, res_1 rfl (rv_tmp rfl), ?_⟩
      exact ⟨rfl, X20⟩
    ·
      replace hm := ite_f (of_decide_eq_false c2) hm
      refine sd_skip rfl rfl rfl ?_
      refine sd_skip rfl rfl rfl ?_
      refine sd_skip rfl rfl rfl ?_
      refine sd_vv rfl rfl rfl (vv_pickF rfl rfl) ?_
      refine sd_vv rfl rfl rfl (vv_assign rfl) ?_
      refine sd_done ?_
      refine sw_ret ?_
      have X21 : Gr w w6 := (Gr.trans (Gr.trans (Gr.trans (Gr.ka (Gr.trans (Gr.trans (Gr.refl w) Gw1) Gw2) Aw3 (tk1 ((.inr tk0) : 1 = 0 ∨ w.heap.size ≤ gw2))) Gw4) Gw5) Gw6)
      have hr := Option.some.inj hm
      subst hr
      refine ⟨_, _, rfl, res_1 rfl (rv_tmp rfl), ?_⟩
      exact ⟨rfl, X21⟩
  ·
    replace hm := cnd_f c1 hm
    refine sd_skip rfl rfl rfl ?_
    refine sd_skip rfl rfl rfl ?_
    refine sd_skip rfl rfl rfl ?_
    refine sd_vv rfl rfl rfl (vv_pickF rfl rfl) ?_
    refine sd_vv rfl rfl rfl (vv_move rfl) ?_
    refine sd_skip rfl rfl rfl ?_
    refine sd_skip rfl rfl rfl ?_
    refine sd_skip rfl rfl rfl ?_
    refine sd_vv rfl rfl rfl (vv_pickF rfl rfl) ?_
    refine sd_vv rfl rfl rfl (vv_assign rfl) ?_
    refine sd_done ?_
    refine sw_ret ?_
    have X22 : Gr w w6 := (Gr.trans (Gr.trans (Gr.trans (Gr.ka (Gr.trans (Gr.trans (Gr.refl w) Gw1) Gw2) Aw3 (tk1 ((.inr tk0) : 1 = 0 ∨ w.heap.size ≤ gw2))) Gw4) Gw5) Gw6)
    have hr := Option.some.inj hm
    subst hr
    refine ⟨_, _, rfl, res_1 rfl (rv_tmp rfl), ?_⟩
    exact ⟨rfl, X22⟩
end Go.Proofs.Ytecempahccgijaa.Mx
