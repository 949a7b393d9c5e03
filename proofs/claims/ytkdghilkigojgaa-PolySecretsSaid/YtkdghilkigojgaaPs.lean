/- Walks that follow mirrors: Ps. Printed by mx.py. -/
import Derived.Test.YtkdghilkigojgaaPa
import Derived.Test.YtkdghilkigojgaaPsM
set_option linter.unusedVariables false
set_option linter.unusedSimpArgs false
set_option maxRecDepth 100000
namespace Go.Proofs.Ytkdghilkigojgaa.Mx
open Go Go.RowKit Go.Sx
theorem en_18 : En Try.prog 18 := fun _ _ => by kernel_rfl
theorem en_19 : En Try.prog 19 := fun _ _ => by kernel_rfl
theorem en_20 : En Try.prog 20 := fun _ _ => by kernel_rfl

set_option maxHeartbeats 2000000 in
theorem law04_PolySecrets_w (p0 : W2) (p1 : TScheme) (p2 : Int)  (r : Bool) (hm : law04_PolySecrets p0 p1 p2 = some r) (w : World)   :
    Calls Try.prog 3 [kv p0, .agg (TScheme.cs p1).toArray, .int .i64 p2].toArray w fun e w' => ∃ v, e = .returned v ∧ (v = .bool r ∧ Gr w w') := by
  unfold law04_PolySecrets at hm
  refine calls_of_sw (R := fun v w' => v = .bool r ∧ Gr w w') 33 Try.func3 rfl rfl rfl ?_
  refine sw_seq ?_
  -- region 0 law.go:39
  refine sw_region [(0, 0), (1, 0), (2, 0)] rfl rfl rfl ?_
  refine sd_ev rfl rfl rfl (ev_box (cs := kb p0) rfl rfl) ?_
  rintro _ w1 ⟨b1, rfl, hbw1, Bw1, Gw1⟩
  have z1 := Gw1.size
  have lt2 := Bw1.lt
  refine sd_ev rfl rfl rfl (ev_box (cs := TScheme.cs p1) rfl rfl) ?_
  rintro _ w2 ⟨b2, rfl, hbw2, Bw2, Gw2⟩
  have z3 := Gw2.size
  have lt4 := Bw2.lt
  refine sd_vv rfl rfl rfl (vv_assign rfl) ?_
  refine sd_done ?_
  refine sw_seq ?_
  -- region 1 law.go:40
  refine sw_region [(0, 0), (1, 0), (2, 0), (3, 0), (4, 0), (5, 0), (6, 0), (7, 0), (8, 0), (9, 0)] rfl rfl rfl ?_
  have B5 := (Bx.gr Bw1 Gw2)
  refine sd_vv rfl rfl rfl (vv_loadW agg_23 rfl B5 rfl) ?_
  refine sd_vv rfl rfl rfl (vv_loadW agg_28 rfl Bw2 rfl) ?_
  refine sd_vv rfl rfl rfl (vv_move rfl) ?_
  have hb := bnd hm; clear hm; obtain ⟨x1, hx1, hm⟩ := hb
  refine sd_ev rfl rfl rfl (ev_call en_18 rfl (poly_Secret_w p0 p1 p2 _ hx1 _)) ?_
  rintro _ w3 ⟨u3_r0_1, z3_r0_1, g3_r0_1, rfl, O3_r0_1, f3_r0_1, Gw3⟩
  have z6 := Gw3.size
  have lt7 := O3_r0_1.lth
  refine sd_vv rfl rfl rfl (vv_move rfl) ?_
  refine sd_vv rfl rfl rfl (vv_extract rfl rfl) ?_
  refine sd_vv rfl rfl rfl (vv_extract rfl rfl) ?_
  refine sd_ev rfl rfl rfl (ev_alloc (cs := TSecret.cs (TSecret.mk 0 [] (TPoint.mk 0#64 0#64)) (.slice none 0 0)) zv_33 rfl) ?_
  rintro _ w4 ⟨b4, rfl, hbw4, Bw4, Gw4⟩
  have z8 := Gw4.size
  have lt9 := Bw4.lt
  have B10 := (Own.gr O3_r0_1 Gw4)
  refine sd_ev rfl rfl rfl (ev_stM (cs' := TSecret.cs x1.1 u3_r0_1) (vs := TSecret.cs x1.1 u3_r0_1) (agg_33).siz rfl rfl rfl rfl (TSecret.cs_ones _ _ (Own.oneB B10)) Bw4 rfl rfl) ?_
  rintro _ w5 ⟨Bw5, Mw5⟩
  have z11 := Mw5.size
  refine sd_vv rfl rfl rfl (vv_assign rfl) ?_
  refine sd_done ?_
  refine sw_seq ?_
  -- region 2 law.go:41
  refine sw_region [(0, 0), (1, 0), (2, 0), (3, 0), (4, 0), (5, 0), (6, 0), (7, 0), (8, 0), (9, 0)] rfl rfl rfl ?_
  have B12 := (Bx.md (Bx.gr (Bx.gr B5 Gw3) Gw4) Mw5)
  refine sd_vv rfl rfl rfl (vv_loadW agg_23 rfl B12 rfl) ?_
  have B13 := (Bx.md (Bx.gr (Bx.gr Bw2 Gw3) Gw4) Mw5)
  refine sd_vv rfl rfl rfl (vv_loadW agg_28 rfl B13 rfl) ?_
  refine sd_vv rfl rfl rfl (vv_move rfl) ?_
  have hb := bnd hm; clear hm; obtain ⟨x2, hx2, hm⟩ := hb
  refine sd_ev rfl rfl rfl (ev_call en_19 rfl (ref04_Secret_w p0 p1 p2 _ hx2 _)) ?_
  rintro _ w6 ⟨u6_r0_1, z6_r0_1, g6_r0_1, rfl, O6_r0_1, f6_r0_1, Gw6⟩
  have z14 := Gw6.size
  have lt15 := O6_r0_1.lth
  refine sd_vv rfl rfl rfl (vv_move rfl) ?_
  refine sd_vv rfl rfl rfl (vv_extract rfl rfl) ?_
  refine sd_vv rfl rfl rfl (vv_extract rfl rfl) ?_
  refine sd_ev rfl rfl rfl (ev_alloc (cs := TSecret.cs (TSecret.mk 0 [] (TPoint.mk 0#64 0#64)) (.slice none 0 0)) zv_33 rfl) ?_
  rintro _ w7 ⟨b7, rfl, hbw7, Bw7, Gw7⟩
  have z16 := Gw7.size
  have lt17 := Bw7.lt
  have B18 := (Own.gr O6_r0_1 Gw7)
  refine sd_ev rfl rfl rfl (ev_stM (cs' := TSecret.cs x2.1 u6_r0_1) (vs := TSecret.cs x2.1 u6_r0_1) (agg_33).siz rfl rfl rfl rfl (TSecret.cs_ones _ _ (Own.oneB B18)) Bw7 rfl rfl) ?_
  rintro _ w8 ⟨Bw8, Mw8⟩
  have z19 := Mw8.size
  refine sd_vv rfl rfl rfl (vv_assign rfl) ?_
  refine sd_done ?_
  refine sw_seq ?_
  -- region 3 law.go:42
  refine sw_region [(0, 0), (1, 0), (2, 0), (3, 0), (4, 0), (5, 0), (6, 0), (7, 0), (8, 0)] rfl rfl rfl ?_
  have B20 := (Bx.md (Bx.gr (Bx.gr Bw5 Gw6) Gw7) Mw8)
  refine sd_vv rfl rfl rfl (vv_loadW agg_33 rfl B20 rfl) ?_
  refine sd_vv rfl rfl rfl (vv_loadW agg_33 rfl Bw8 rfl) ?_
  have B21 := (Own.md (Own.gr (Own.gr (Own.md B10 Mw5 (tk1 ((pv_lt (A := (fun x => x ≠ b4)) lt7) : z3_r0_1 = 0 ∨ g3_r0_1 ≠ b4))) Gw6) Gw7) Mw8 (tk1 ((pv_lt (A := (fun x => x ≠ b7)) lt7) : z3_r0_1 = 0 ∨ g3_r0_1 ≠ b7)))
  have B22 := (Own.md B18 Mw8 (tk1 ((pv_lt (A := (fun x => x ≠ b7)) lt15) : z6_r0_1 = 0 ∨ g6_r0_1 ≠ b7)))
  have hb := bnd hm; clear hm; obtain ⟨x3, hx3, hm⟩ := hb
  refine sd_ev rfl rfl rfl (ev_call en_20 rfl (ref03_SameSecret_w x1.1 x2.1 _ _ _ _ _ _ _ _ _ hx3 _ (Own.rd B21) (Own.rd B22))) ?_
  rintro _ w9 ⟨rfl, Gw9⟩
  have z23 := Gw9.size
  refine sd_split rfl rfl rfl (vv_move rfl) (fun c1 => ?_) (fun c1 => ?_)
  ·
    replace hm := cnd_t c1 hm
    refine sd_vv rfl rfl rfl (vv_move rfl) ?_
    refine sd_vv rfl rfl rfl (vv_move rfl) ?_
    refine sd_vv rfl rfl rfl (vv_eql (a := x1.2) (b := x2.2) rfl rfl) ?_
    refine sd_vv rfl rfl rfl (vv_pickT rfl rfl) ?_
    refine sd_vv rfl rfl rfl (vv_assign rfl) ?_
    refine sd_done ?_
    refine sw_ret ?_
    have X24 : Gr w w9 := (Gr.trans (Gr.md (Gr.trans (Gr.trans (Gr.md (Gr.trans (Gr.trans (Gr.trans (Gr.trans (Gr.refl w) Gw1) Gw2) Gw3) Gw4) Mw5) Gw6) Gw7) Mw8) Gw9)
    have hr := Option.some.inj hm
    subst hr
    refine ⟨_, _, rfl, res_1 rfl (rv_tmp rfl), ?_⟩
    exact ⟨rfl, X24⟩
  ·
    replace hm := cnd_f c1 hm
    refine sd_skip rfl rfl rfl ?_
    refine sd_skip rfl rfl rfl ?_
    refine sd_skip rfl rfl rfl ?_
    refine sd_vv rfl rfl rfl (vv_pickF rfl rfl) ?_
    refine sd_vv rfl rfl rfl (vv_assign rfl) ?_
    refine sd_done ?_
    refine sw_ret ?_
    have X25 : Gr w w9 := (Gr.trans (Gr.md (Gr.trans (Gr.trans (Gr.md (Gr.trans (Gr.trans (Gr.trans (Gr.trans (Gr.refl w) Gw1) Gw2) Gw3) Gw4) Mw5) Gw6) Gw7) Mw8) Gw9)
    have hr := Option.some.inj hm
    subst hr
    refine ⟨_, _, rfl, res_1 rfl (rv_tmp rfl), ?_⟩
    exact ⟨rfl, X25⟩
end Go.Proofs.Ytkdghilkigojgaa.Mx
