/- Walks that follow mirrors: Pe. Printed by mx.py. -/
import Derived.Test.YtkdghilkigojgaaPb
import Derived.Test.YtkdghilkigojgaaPeM
set_option linter.unusedVariables false
set_option linter.unusedSimpArgs false
set_option maxRecDepth 100000
namespace Go.Proofs.Ytkdghilkigojgaa.Mx
open Go Go.RowKit Go.Sx
theorem bsl_41_0 : BSl Try.prog 41 0 3 1 [] := bsl_nil Try.underlying41 (one_3).siz
theorem apt_41 : ApT Try.prog 41 3 1 8 := apt_mk Try.underlying41 rfl (by kernel_rfl)
theorem en_21 : En Try.prog 21 := fun _ _ => by kernel_rfl
theorem en_22 : En Try.prog 22 := fun _ _ => by kernel_rfl
theorem en_23 : En Try.prog 23 := fun _ _ => by kernel_rfl
theorem en_24 : En Try.prog 24 := fun _ _ => by kernel_rfl

set_option maxHeartbeats 2000000 in
theorem law04_PolySeals_w (p0 : W2) (p1 : TScheme) (p2 : List Int) (p3 : W2) (p4 : BitVec 64) (vp2 : Value) (zp2 gp2 op2 : Nat) (r : Bool) (hm : law04_PolySeals p0 p1 p2 p3 p4 = some r) (w : World) (hp2 : Rd w zp2 gp2 op2 1 vp2 (p2.map ic))  :
    Calls Try.prog 4 [kv p0, .agg (TScheme.cs p1).toArray, vp2, kv p3, wv p4].toArray w fun e w' => ∃ v, e = .returned v ∧ (v = .bool r ∧ Gr w w') := by
  have lt1 := hp2.lth
  unfold law04_PolySeals at hm
  refine calls_of_sw (R := fun v w' => v = .bool r ∧ Gr w w') 50 Try.func4 rfl rfl rfl ?_
  refine sw_seq ?_
  -- region 0 law.go:46
  refine sw_region [(0, 0), (1, 0), (2, 0), (3, 0)] rfl rfl rfl ?_
  refine sd_ev rfl rfl rfl (ev_box (cs := kb p0) rfl rfl) ?_
  rintro _ w1 ⟨b1, rfl, hbw1, Bw1, Gw1⟩
  have z2 := Gw1.size
  have lt3 := Bw1.lt
  refine sd_ev rfl rfl rfl (ev_box (cs := TScheme.cs p1) rfl rfl) ?_
  rintro _ w2 ⟨b2, rfl, hbw2, Bw2, Gw2⟩
  have z4 := Gw2.size
  have lt5 := Bw2.lt
  refine sd_ev rfl rfl rfl (ev_box (cs := kb p3) rfl rfl) ?_
  rintro _ w3 ⟨b3, rfl, hbw3, Bw3, Gw3⟩
  have z6 := Gw3.size
  have lt7 := Bw3.lt
  refine sd_vv rfl rfl rfl (vv_assign rfl) ?_
  refine sd_done ?_
  refine sw_seq ?_
  -- region 1 law.go:47
  refine sw_region [(0, 0), (1, 0), (2, 0), (3, 0)] rfl rfl rfl ?_
  refine sd_ev rfl rfl rfl (ev_litT ([] : List Int) ic bsl_41_0 rfl rfl (ws_of rfl) rfl rfl rfl) ?_
  rintro vw4 w4 ⟨gw4, hbw4, Ow4, Gw4⟩
  have z8 := Gw4.size
  have lt9 := Ow4.lth
  refine sd_vv rfl rfl rfl (vv_move rfl) ?_
  have B10 := (Rd.gr (Rd.gr (Rd.gr (Rd.gr hp2 Gw1) Gw2) Gw3) Gw4)
  have hb := bnd hm; clear hm; obtain ⟨l1, hl1, hm⟩ := hb
  refine sd_ev rfl rfl rfl (ev_appT (l := ([] : List Int)) (m := p2) (c := ic) apt_41 rfl rfl Ow4 B10 hl1 (by decide)) ?_
  rintro vw5 w5 ⟨zw5, gw5, Ow5, Aw5, qw5, rw5⟩
  have z11 := Aw5.size
  refine sd_vv rfl rfl rfl (vv_assign rfl) ?_
  refine sd_done ?_
  refine sw_seq ?_
  -- region 2 law.go:48
  refine sw_region [(0, 0), (1, 0), (2, 0), (3, 0), (4, 0), (5, 0), (6, 0), (7, 0), (8, 0), (9, 0), (10, 0), (11, 0)] rfl rfl rfl ?_
  have B12 := (Bx.ka (Bx.gr (Bx.gr (Bx.gr Bw1 Gw2) Gw3) Gw4) Aw5 (tk1 ((.inr tk0) : 1 = 0 ∨ gw4 ≠ b1)))
  refine sd_vv rfl rfl rfl (vv_loadW agg_23 rfl B12 rfl) ?_
  have B13 := (Bx.ka (Bx.gr (Bx.gr Bw2 Gw3) Gw4) Aw5 (tk1 ((.inr tk0) : 1 = 0 ∨ gw4 ≠ b2)))
  refine sd_vv rfl rfl rfl (vv_loadW agg_28 rfl B13 rfl) ?_
  refine sd_vv rfl rfl rfl (vv_move rfl) ?_
  have B14 := (Bx.ka (Bx.gr Bw3 Gw4) Aw5 (tk1 ((.inr tk0) : 1 = 0 ∨ gw4 ≠ b3)))
  refine sd_vv rfl rfl rfl (vv_loadW agg_23 rfl B14 rfl) ?_
  refine sd_vv rfl rfl rfl (vv_move rfl) ?_
  have hb := bnd hm; clear hm; obtain ⟨x2, hx2, hm⟩ := hb
  refine sd_ev rfl rfl rfl (ev_call en_21 rfl (poly_Seal_w p0 p1 l1 p3 p4 _ _ _ _ _ hx2 _ (Own.rd Ow5))) ?_
  rintro _ w6 ⟨u6_r0_0, z6_r0_0, g6_r0_0, u6_r0_2, z6_r0_2, g6_r0_2, rfl, O6_r0_0, f6_r0_0, O6_r0_2, f6_r0_2, d6_0, Gw6⟩
  have z15 := Gw6.size
  have lt16 := O6_r0_0.lth
  have lt17 := O6_r0_2.lth
  refine sd_vv rfl rfl rfl (vv_move rfl) ?_
  refine sd_vv rfl rfl rfl (vv_extract rfl rfl) ?_
  refine sd_vv rfl rfl rfl (vv_extract rfl rfl) ?_
  refine sd_ev rfl rfl rfl (ev_alloc (cs := THeader.cs (THeader.mk [] 0#64 [] k0 k0) (.slice none 0 0) (.slice none 0 0)) zv_45 rfl) ?_
  rintro _ w7 ⟨b7, rfl, hbw7, Bw7, Gw7⟩
  have z18 := Gw7.size
  have lt19 := Bw7.lt
  have B20 := (Own.gr O6_r0_0 Gw7)
  have B21 := (Own.gr O6_r0_2 Gw7)
  refine sd_ev rfl rfl rfl (ev_stM (cs' := THeader.cs x2.1 u6_r0_0 u6_r0_2) (vs := THeader.cs x2.1 u6_r0_0 u6_r0_2) (agg_45).siz rfl rfl rfl rfl (THeader.cs_ones _ _ _ (Own.oneB B20) (Own.oneB B21)) Bw7 rfl rfl) ?_
  rintro _ w8 ⟨Bw8, Mw8⟩
  have z22 := Mw8.size
  refine sd_vv rfl rfl rfl (vv_assign rfl) ?_
  refine sd_done ?_
  refine sw_seq ?_
  -- region 3 law.go:49
  refine sw_region [(0, 0), (1, 0), (2, 0), (3, 0), (4, 0), (5, 0), (6, 0), (7, 0), (8, 0), (9, 0), (10, 0), (11, 0)] rfl rfl rfl ?_
  have B23 := (Bx.md (Bx.gr (Bx.gr B12 Gw6) Gw7) Mw8)
  refine sd_vv rfl rfl rfl (vv_loadW agg_23 rfl B23 rfl) ?_
  have B24 := (Bx.md (Bx.gr (Bx.gr B13 Gw6) Gw7) Mw8)
  refine sd_vv rfl rfl rfl (vv_loadW agg_28 rfl B24 rfl) ?_
  refine sd_vv rfl rfl rfl (vv_move rfl) ?_
  have B25 := (Bx.md (Bx.gr (Bx.gr B14 Gw6) Gw7) Mw8)
  refine sd_vv rfl rfl rfl (vv_loadW agg_23 rfl B25 rfl) ?_
  refine sd_vv rfl rfl rfl (vv_move rfl) ?_
  have B26 := (Rd.md (Rd.gr (Rd.gr (Rd.ka B10 Aw5 (tk1 ((pv_sw (.inr (tk1 lt1.o))) : zp2 = 0 ∨ 1 = 0 ∨ gp2 ≠ gw4))) Gw6) Gw7) Mw8 (tk1 ((pv_lt (A := (fun x => x ≠ b7)) lt1) : zp2 = 0 ∨ gp2 ≠ b7)))
  have hb := bnd hm; clear hm; obtain ⟨x3, hx3, hm⟩ := hb
  refine sd_ev rfl rfl rfl (ev_call en_22 rfl (ref04_Seal_w p0 p1 p2 p3 p4 _ _ _ _ _ hx3 _ B26)) ?_
  rintro _ w9 ⟨u9_r0_0, z9_r0_0, g9_r0_0, u9_r0_2, z9_r0_2, g9_r0_2, rfl, O9_r0_0, f9_r0_0, O9_r0_2, f9_r0_2, d9_0, Gw9⟩
  have z27 := Gw9.size
  have lt28 := O9_r0_0.lth
  have lt29 := O9_r0_2.lth
  refine sd_vv rfl rfl rfl (vv_move rfl) ?_
  refine sd_vv rfl rfl rfl (vv_extract rfl rfl) ?_
  refine sd_vv rfl rfl rfl (vv_extract rfl rfl) ?_
  refine sd_ev rfl rfl rfl (ev_alloc (cs := THeader.cs (THeader.mk [] 0#64 [] k0 k0) (.slice none 0 0) (.slice none 0 0)) zv_45 rfl) ?_
  rintro _ w10 ⟨b10, rfl, hbw10, Bw10, Gw10⟩
  have z30 := Gw10.size
  have lt31 := Bw10.lt
  have B32 := (Own.gr O9_r0_0 Gw10)
  have B33 := (Own.gr O9_r0_2 Gw10)
  refine sd_ev rfl rfl rfl (ev_stM (cs' := THeader.cs x3.1 u9_r0_0 u9_r0_2) (vs := THeader.cs x3.1 u9_r0_0 u9_r0_2) (agg_45).siz rfl rfl rfl rfl (THeader.cs_ones _ _ _ (Own.oneB B32) (Own.oneB B33)) Bw10 rfl rfl) ?_
  rintro _ w11 ⟨Bw11, Mw11⟩
  have z34 := Mw11.size
  refine sd_vv rfl rfl rfl (vv_assign rfl) ?_
  refine sd_done ?_
  refine sw_seq ?_
  -- region 4 law.go:50
  refine sw_region [(0, 0), (1, 0), (2, 0), (3, 0), (4, 0), (5, 0), (6, 0), (7, 0), (8, 0), (9, 0), (10, 0), (11, 0), (12, 0), (13, 0)] rfl rfl rfl ?_
  have B35 := (Bx.md (Bx.gr (Bx.gr Bw8 Gw9) Gw10) Mw11)
  refine sd_vv rfl rfl rfl (vv_loadW agg_45 rfl B35 rfl) ?_
  refine sd_vv rfl rfl rfl (vv_loadW agg_45 rfl Bw11 rfl) ?_
  have B36 := (Own.md (Own.gr (Own.gr (Own.md B20 Mw8 (tk1 ((pv_lt (A := (fun x => x ≠ b7)) lt16) : z6_r0_0 = 0 ∨ g6_r0_0 ≠ b7))) Gw9) Gw10) Mw11 (tk1 ((pv_lt (A := (fun x => x ≠ b10)) lt16) : z6_r0_0 = 0 ∨ g6_r0_0 ≠ b10)))
  have B37 := (Own.md (Own.gr (Own.gr (Own.md B21 Mw8 (tk1 ((pv_lt (A := (fun x => x ≠ b7)) lt17) : z6_r0_2 = 0 ∨ g6_r0_2 ≠ b7))) Gw9) Gw10) Mw11 (tk1 ((pv_lt (A := (fun x => x ≠ b10)) lt17) : z6_r0_2 = 0 ∨ g6_r0_2 ≠ b10)))
  have B38 := (Own.md B32 Mw11 (tk1 ((pv_lt (A := (fun x => x ≠ b10)) lt28) : z9_r0_0 = 0 ∨ g9_r0_0 ≠ b10)))
  have B39 := (Own.md B33 Mw11 (tk1 ((pv_lt (A := (fun x => x ≠ b10)) lt29) : z9_r0_2 = 0 ∨ g9_r0_2 ≠ b10)))
  have hb := bnd hm; clear hm; obtain ⟨x4, hx4, hm⟩ := hb
  refine sd_ev rfl rfl rfl (ev_call en_23 rfl (ref03_SameHeader_w x2.1 x3.1 _ _ _ _ _ _ _ _ _ _ _ _ _ _ _ _ _ hx4 _ (Own.rd B36) (Own.rd B37) (Own.rd B38) (Own.rd B39))) ?_
  rintro _ w12 ⟨rfl, Gw12⟩
  have z40 := Gw12.size
  refine sd_split rfl rfl rfl (vv_move rfl) (fun c1 => ?_) (fun c1 => ?_)
  ·
    replace hm := cnd_t c1 hm
    refine sd_vv rfl rfl rfl (vv_move rfl) ?_
    refine sd_vv rfl rfl rfl (vv_move rfl) ?_
    refine sd_vv rfl rfl rfl (vv_eql (a := x2.2) (b := x3.2) rfl rfl) ?_
    refine sd_vv rfl rfl rfl (vv_pickT rfl rfl) ?_
    refine sd_split rfl rfl rfl (vv_move rfl) (fun c2 => ?_) (fun c2 => ?_)
    ·
      replace hm := ite_t (of_decide_eq_true c2) hm
      refine sd_vv rfl rfl rfl (vv_move rfl) ?_
      refine sd_vv rfl rfl rfl (vv_move rfl) ?_
      have B41 := (Own.gr (Own.md (Own.gr (Own.gr (Own.md (Own.gr (Own.gr Ow5 Gw6) Gw7) Mw8 (tk1 ((pv_lt (A := (fun x => x ≠ b7)) qw5) : zw5 = 0 ∨ gw5 ≠ b7))) Gw9) Gw10) Mw11 (tk1 ((pv_lt (A := (fun x => x ≠ b10)) qw5) : zw5 = 0 ∨ gw5 ≠ b10))) Gw12)
      have B42 := (Rd.gr (Rd.md (Rd.gr (Rd.gr B26 Gw9) Gw10) Mw11 (tk1 ((pv_lt (A := (fun x => x ≠ b10)) lt1) : zp2 = 0 ∨ gp2 ≠ b10))) Gw12)
      have hb := bnd hm; clear hm; obtain ⟨x5, hx5, hm⟩ := hb
      refine sd_ev rfl rfl rfl (ev_call en_24 rfl (ref03_SameInts_w l1 p2 _ _ _ _ _ _ _ _ _ hx5 _ (Own.rd B41) B42)) ?_
      rintro _ w13 ⟨rfl, Gw13⟩
      have z43 := Gw13.size
      refine sd_vv rfl rfl rfl (vv_pickT rfl rfl) ?_
      refine sd_vv rfl rfl rfl (vv_assign rfl) ?_
      refine sd_done ?_
      refine sw_ret ?_
      have X44 : Gr w w13 := (Gr.trans (Gr.trans (Gr.md (Gr.trans (Gr.trans (Gr.md (Gr.trans (Gr.trans (Gr.ka (Gr.trans (Gr.trans (Gr.trans (Gr.trans (Gr.refl w) Gw1) Gw2) Gw3) Gw4) Aw5 (tk1 ((.inr tk0) : 1 = 0 ∨ w.heap.size ≤ gw4))) Gw6) Gw7) Mw8) Gw9) Gw10) Mw11) Gw12) Gw13)
      have hr := Option.some.inj hm
      subst hr
      refine ⟨_, _, rfl, res_1 rfl (rv_tmp rfl), ?_⟩
      exact ⟨rfl, X44⟩
    ·
      replace hm := ite_f (of_decide_eq_false c2) hm
      refine sd_skip rfl rfl rfl ?_
      refine sd_skip rfl rfl rfl ?_
      refine sd_skip rfl rfl rfl ?_
      refine sd_vv rfl rfl rfl (vv_pickF rfl rfl) ?_
      refine sd_vv rfl rfl rfl (vv_assign rfl) ?_
      refine sd_done ?_
      refine sw_ret ?_
      have X45 : Gr w w12 := (Gr.trans (Gr.md (Gr.trans (Gr.trans (Gr.md (Gr.trans (Gr.trans (Gr.ka (Gr.trans (Gr.trans (Gr.trans (Gr.trans (Gr.refl w) Gw1) Gw2) Gw3) Gw4) Aw5 (tk1 ((.inr tk0) : 1 = 0 ∨ w.heap.size ≤ gw4))) Gw6) Gw7) Mw8) Gw9) Gw10) Mw11) Gw12)
      have hr := Option.some.inj hm
      subst hr
      refine ⟨_, _, rfl, res_1 rfl (rv_tmp rfl), ?_⟩
      exact ⟨rfl, X45⟩
  ·
    replace hm := cnd_f c1 hm
    refine sd_skip rfl rfl rfl ?_
    refine sd_skip rfl rfl rfl ?_
    refine sd_skip rfl rfl rfl ?_
    refine sd_vv rfl rfl rfl (vv_pickF rfl rfl) ?_
    refine sd_vv rfl rfl rfl (vv_move rfl) ?_
    refine sd_skip rfl rfl rfl ?_
    refine sd_skip rfl rfl rfl ?_
    refine sd_skip rfl rfl rfl ?_
    refine sd_vv rfl rfl rfl (vv_pickF rfl rfl) ?_
    refine sd_vv rfl rfl rfl (vv_assign rfl) ?_
    refine sd_done ?_
    refine sw_ret ?_
    have X46 : Gr w w12 := (Gr.trans (Gr.md (Gr.trans (Gr.trans (Gr.md (Gr.trans (Gr.trans (Gr.ka (Gr.trans (Gr.trans (Gr.trans (Gr.trans (Gr.refl w) Gw1) Gw2) Gw3) Gw4) Aw5 (tk1 ((.inr tk0) : 1 = 0 ∨ w.heap.size ≤ gw4))) Gw6) Gw7) Mw8) Gw9) Gw10) Mw11) Gw12)
    have hr := Option.some.inj hm
    subst hr
    refine ⟨_, _, rfl, res_1 rfl (rv_tmp rfl), ?_⟩
    exact ⟨rfl, X46⟩
end Go.Proofs.Ytkdghilkigojgaa.Mx
