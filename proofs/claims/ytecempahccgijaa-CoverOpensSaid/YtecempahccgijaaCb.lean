/- Walks that follow mirrors: Cb. Printed by mx.py. -/
import Derived.Test.YtecempahccgijaaCr
import Derived.Test.YtecempahccgijaaCbM
set_option linter.unusedVariables false
set_option linter.unusedSimpArgs false
set_option maxRecDepth 100000
namespace Go.Proofs.Ytecempahccgijaa.Mx
open Go Go.RowKit Go.Sx
theorem en_33 : En Try.prog 33 := fun _ _ => by kernel_rfl
theorem bs_28 : BS Try.prog 28 (fun i => [(0, 1), (1, 1), (2, 1), (3, 16), (19, 16)][i]?) [.slice none 0 0, .int .u64 0, .slice none 0 0, .int .u8 0, .int .u8 0, .int .u8 0, .int .u8 0, .int .u8 0, .int .u8 0, .int .u8 0, .int .u8 0, .int .u8 0, .int .u8 0, .int .u8 0, .int .u8 0, .int .u8 0, .int .u8 0, .int .u8 0, .int .u8 0, .int .u8 0, .int .u8 0, .int .u8 0, .int .u8 0, .int .u8 0, .int .u8 0, .int .u8 0, .int .u8 0, .int .u8 0, .int .u8 0, .int .u8 0, .int .u8 0, .int .u8 0, .int .u8 0, .int .u8 0, .int .u8 0] := bs_mk Try.underlying28 zv_28 ⟨rfl, (one_22).siz, rfl, (one_23).siz, rfl, (one_24).siz, rfl, (agg_26).siz, rfl, (agg_26).siz, trivial⟩
theorem en_87 : En Try.prog 87 := fun _ _ => by kernel_rfl
theorem zv_108 : ZV Try.prog 108 (.agg [.int .i64 0, .int .i64 0, .int .u8 0, .int .u8 0, .int .u8 0, .int .u8 0, .int .u8 0, .int .u8 0, .int .u8 0, .int .u8 0, .int .u8 0, .int .u8 0, .int .u8 0, .int .u8 0, .int .u8 0, .int .u8 0, .int .u8 0, .int .u8 0].toArray) := fun _ => by kernel_rfl
theorem bs_108 : BS Try.prog 108 (fun i => [(0, 2), (2, 16)][i]?) [.int .i64 0, .int .i64 0, .int .u8 0, .int .u8 0, .int .u8 0, .int .u8 0, .int .u8 0, .int .u8 0, .int .u8 0, .int .u8 0, .int .u8 0, .int .u8 0, .int .u8 0, .int .u8 0, .int .u8 0, .int .u8 0, .int .u8 0, .int .u8 0] := bs_mk Try.underlying108 zv_108 ⟨rfl, (agg_47).siz, rfl, (agg_26).siz, trivial⟩
theorem bsl_22_1 : BSl Try.prog 22 1 108 18 [.int .i64 0, .int .i64 0, .int .u8 0, .int .u8 0, .int .u8 0, .int .u8 0, .int .u8 0, .int .u8 0, .int .u8 0, .int .u8 0, .int .u8 0, .int .u8 0, .int .u8 0, .int .u8 0, .int .u8 0, .int .u8 0, .int .u8 0, .int .u8 0] := bsl_mk Try.underlying22 (agg_108).siz zv_108 rfl rfl (by kernel_rfl)
theorem en_90 : En Try.prog 90 := fun _ _ => by kernel_rfl
theorem fa_108_0 : FA Try.prog 108 0 0 := fun _ _ _ => by kernel_rfl
theorem en_97 : En Try.prog 97 := fun _ _ => by kernel_rfl
theorem en_143 : En Try.prog 143 := fun _ _ => by kernel_rfl
theorem en_98 : En Try.prog 98 := fun _ _ => by kernel_rfl
theorem fa_108_1 : FA Try.prog 108 1 2 := fun _ _ _ => by kernel_rfl
theorem en_100 : En Try.prog 100 := fun _ _ => by kernel_rfl
theorem en_101 : En Try.prog 101 := fun _ _ => by kernel_rfl
theorem cv_5_23 : CV Try.prog 5 23 .u64 := fun _ _ _ => by kernel_rfl
theorem en_73 : En Try.prog 73 := fun _ _ => by kernel_rfl
theorem en_137 : En Try.prog 137 := fun _ _ => by kernel_rfl
theorem zv_23 : ZV Try.prog 23 (.int .u64 0) := fun _ => by kernel_rfl
theorem bsl_200_1 : BSl Try.prog 200 1 23 1 [.int .u64 0] := bsl_mk Try.underlying200 (one_23).siz zv_23 rfl rfl (by kernel_rfl)
theorem en_139 : En Try.prog 139 := fun _ _ => by kernel_rfl
theorem en_140 : En Try.prog 140 := fun _ _ => by kernel_rfl
theorem apt_200 : ApT Try.prog 200 23 1 8 := apt_mk Try.underlying200 rfl (by kernel_rfl)
theorem en_138 : En Try.prog 138 := fun _ _ => by kernel_rfl
theorem cv_23_5 : CV Try.prog 23 5 .u8 := fun _ _ _ => by kernel_rfl
theorem zv_5 : ZV Try.prog 5 (.int .u8 0) := fun _ => by kernel_rfl
theorem bsl_29_1 : BSl Try.prog 29 1 5 1 [.int .u8 0] := bsl_mk Try.underlying29 (one_5).siz zv_5 rfl rfl (by kernel_rfl)
theorem apt_29 : ApT Try.prog 29 5 1 1 := apt_mk Try.underlying29 rfl (by kernel_rfl)
theorem en_66 : En Try.prog 66 := fun _ _ => by kernel_rfl
theorem en_158 : En Try.prog 158 := fun _ _ => by kernel_rfl
theorem en_141 : En Try.prog 141 := fun _ _ => by kernel_rfl
theorem en_103 : En Try.prog 103 := fun _ _ => by kernel_rfl

set_option maxHeartbeats 2000000 in
theorem cover_Seal_w (p0 : W2) (p1 : TScheme) (p2 : List TSubset) (p3 : W2) (vp2 : Value) (zp2 gp2 op2 : Nat) (r : THeader × Int) (hm : cover_Seal p0 p1 p2 p3 = some r) (w : World) (hp2 : Rd w zp2 gp2 op2 2 vp2 (p2.map TSubset.cs))  :
    Calls Try.prog 38 [kv p0, .agg (TScheme.cs p1).toArray, vp2, kv p3].toArray w fun e w' => ∃ v, e = .returned v ∧ (∃ (ur0_0 : Value) (zr0_0 : Nat) (gr0_0 : Nat) (ur0_2 : Value) (zr0_2 : Nat) (gr0_2 : Nat), v = .tuple [.agg (THeader.cs r.1 ur0_0 ur0_2).toArray, .int .i64 r.2].toArray ∧ Own w' zr0_0 gr0_0 108 18 ur0_0 (r.1.Items.map TItem.cs) ∧ Hdn (zr0_0 = 0 ∨ w.heap.size ≤ gr0_0) ∧ Own w' zr0_2 gr0_2 72 2 ur0_2 (r.1.Points.map TPoint.cs) ∧ Hdn (zr0_2 = 0 ∨ w.heap.size ≤ gr0_2) ∧ Hdn (zr0_2 = 0 ∨ zr0_0 = 0 ∨ gr0_2 ≠ gr0_0) ∧ Gr w w') := by
  have lt1 := hp2.lth
  unfold cover_Seal at hm
  refine calls_of_sw (R := fun v w' => ∃ (ur0_0 : Value) (zr0_0 : Nat) (gr0_0 : Nat) (ur0_2 : Value) (zr0_2 : Nat) (gr0_2 : Nat), v = .tuple [.agg (THeader.cs r.1 ur0_0 ur0_2).toArray, .int .i64 r.2].toArray ∧ Own w' zr0_0 gr0_0 108 18 ur0_0 (r.1.Items.map TItem.cs) ∧ Hdn (zr0_0 = 0 ∨ w.heap.size ≤ gr0_0) ∧ Own w' zr0_2 gr0_2 72 2 ur0_2 (r.1.Points.map TPoint.cs) ∧ Hdn (zr0_2 = 0 ∨ w.heap.size ≤ gr0_2) ∧ Hdn (zr0_2 = 0 ∨ zr0_0 = 0 ∨ gr0_2 ≠ gr0_0) ∧ Gr w w') 60 Try.func38 rfl rfl rfl ?_
  refine sw_seq ?_
  -- region 0 cover.go:281
  refine sw_region [(0, 0), (1, 0), (2, 0), (3, 0), (4, 0)] rfl rfl rfl ?_
  refine sd_ev rfl rfl rfl (ev_box (cs := kb p0) rfl rfl) ?_
  rintro _ w1 ⟨b1, rfl, hbw1, Bw1, Gw1⟩
  have z2 := Gw1.size
  have lt3 := Bw1.lt
  refine sd_ev rfl rfl rfl (ev_box (cs := TScheme.cs p1) rfl rfl) ?_
  rintro _ w2 ⟨b2, rfl, hbw2, Bw2, Gw2⟩
  have z4 := Gw2.size
  have lt5 := Bw2.lt
  refine sd_ev rfl rfl rfl (ev_box (cs := kb p3) rfl rfl) ?_
  rintro _ w3 ⟨b3, rfl, hbw3, Bw3, Gw3⟩
  have z6 := Gw3.size
  have lt7 := Bw3.lt
  refine sd_ev rfl rfl rfl (ev_alloc (cs := THeader.cs (THeader.mk [] 0#64 [] k0 k0) (.slice none 0 0) (.slice none 0 0)) zv_28 rfl) ?_
  rintro _ w4 ⟨b4, rfl, hbw4, Bw4, Gw4⟩
  have z8 := Gw4.size
  have lt9 := Bw4.lt
  refine sd_vv rfl rfl rfl (vv_assign rfl) ?_
  refine sd_done ?_
  refine sw_seq ?_
  refine sw_seq ?_
  -- region 1 cover.go:282
  refine sw_region [(0, 0), (1, 0), (2, 0)] rfl rfl rfl ?_
  have B10 := (Bx.gr (Bx.gr Bw2 Gw3) Gw4)
  refine sd_vv rfl rfl rfl (vv_loadW agg_45 rfl B10 rfl) ?_
  have hb := bnd hm; clear hm; obtain ⟨x1, hx1, hm⟩ := hb
  refine sd_ev rfl rfl rfl (ev_call en_33 rfl (cover_Check_w p1 _ hx1 _)) ?_
  rintro _ w5 ⟨rfl, Gw5⟩
  have z11 := Gw5.size
  refine sd_vv rfl rfl rfl (vv_assign rfl) ?_
  refine sd_done ?_
  refine sw_seq ?_
  -- region 2 cover.go:282
  refine sw_region [(0, 0), (1, 0)] rfl rfl rfl ?_
  refine sd_vv rfl rfl rfl (vv_move rfl) ?_
  refine sd_vv rfl rfl rfl (vv_neq (a := x1) (b := 0) rfl rfl) ?_
  refine sd_done ?_
  refine sw_cond rfl (fun c1 => ?_) (fun c1 => ?_)
  ·
    replace hm := ite_t (of_decide_eq_true c1) hm
    refine sw_seq ?_
    -- region 3 cover.go:283
    refine sw_region [(0, 0), (1, 0), (2, 0), (3, 0)] rfl rfl rfl ?_
    refine sd_vv rfl rfl rfl (vv_build (cs := THeader.cs (THeader.mk [] 0#64 [] k0 k0) (.slice none 0 0) (.slice none 0 0)) bs_28 rfl rfl) ?_
    refine sd_vv rfl rfl rfl (vv_move rfl) ?_
    have B12 := (Bx.gr Bw4 Gw5)
    refine sd_ev rfl rfl rfl (ev_stM (cs' := THeader.cs (THeader.mk [] 0#64 [] k0 k0) (.slice none 0 0) (.slice none 0 0)) (vs := THeader.cs (THeader.mk [] 0#64 [] k0 k0) (.slice none 0 0) (.slice none 0 0)) (agg_28).siz rfl rfl rfl rfl (THeader.cs_ones _ _ _ rfl rfl) B12 rfl rfl) ?_
    rintro _ w6 ⟨Bw6, Mw6⟩
    have z13 := Mw6.size
    refine sd_vv rfl rfl rfl (vv_assign rfl) ?_
    refine sd_done ?_
    refine sw_ret ?_
    refine then_r ?_
    have X14 : Gr w w6 := (Gr.md (Gr.trans (Gr.trans (Gr.trans (Gr.trans (Gr.trans (Gr.refl w) Gw1) Gw2) Gw3) Gw4) Gw5) Mw6)
    have hr := Option.some.inj hm
    subst hr
    refine ⟨_, _, rfl, res_2 rfl (rv_cellW agg_28 rfl Bw6 rfl) (rv_tmp rfl), ?_⟩
    exact ⟨(.slice none 0 0), 0, 0, (.slice none 0 0), 0, 0, rfl, (own_nil _ 0 108 18), ⟨.inl rfl⟩, (own_nil _ 0 72 2), ⟨.inl rfl⟩, ⟨(.inl rfl)⟩, X14⟩
  ·
    replace hm := ite_f (of_decide_eq_false c1) hm
    refine sw_skip ?_
    refine then_n ?_
    refine sw_seq ?_
    refine sw_seq ?_
    -- region 4 cover.go:285
    refine sw_region [(0, 0), (1, 0), (2, 0)] rfl rfl rfl ?_
    refine sd_vv rfl rfl rfl (vv_move rfl) ?_
    have B15 := (Rd.gr (Rd.gr (Rd.gr (Rd.gr (Rd.gr hp2 Gw1) Gw2) Gw3) Gw4) Gw5)
    refine sd_vv rfl rfl rfl (vv_lenT (l := p2) (c := TSubset.cs) Try.underlying48 rfl B15) ?_
    refine sd_vv rfl rfl rfl (vv_gtr (a := (p2.length : Int)) (b := 64) rfl rfl) ?_
    refine sd_done ?_
    refine sw_cond rfl (fun c2 => ?_) (fun c2 => ?_)
    ·
      replace hm := ite_t (of_decide_eq_true c2) hm
      refine sw_seq ?_
      -- region 5 cover.go:286
      refine sw_region [(0, 0), (1, 0), (2, 0)] rfl rfl rfl ?_
      refine sd_vv rfl rfl rfl (vv_build (cs := THeader.cs (THeader.mk [] 0#64 [] k0 k0) (.slice none 0 0) (.slice none 0 0)) bs_28 rfl rfl) ?_
      have B16 := (Bx.gr Bw4 Gw5)
      refine sd_ev rfl rfl rfl (ev_stM (cs' := THeader.cs (THeader.mk [] 0#64 [] k0 k0) (.slice none 0 0) (.slice none 0 0)) (vs := THeader.cs (THeader.mk [] 0#64 [] k0 k0) (.slice none 0 0) (.slice none 0 0)) (agg_28).siz rfl rfl rfl rfl (THeader.cs_ones _ _ _ rfl rfl) B16 rfl rfl) ?_
      rintro _ w7 ⟨Bw7, Mw7⟩
      have z17 := Mw7.size
      refine sd_vv rfl rfl rfl (vv_assign rfl) ?_
      refine sd_done ?_
      refine sw_ret ?_
      refine then_r ?_
      have X18 : Gr w w7 := (Gr.md (Gr.trans (Gr.trans (Gr.trans (Gr.trans (Gr.trans (Gr.refl w) Gw1) Gw2) Gw3) Gw4) Gw5) Mw7)
      have hr := Option.some.inj hm
      subst hr
      refine ⟨_, _, rfl, res_2 rfl (rv_cellW agg_28 rfl Bw7 rfl) (rv_tmp rfl), ?_⟩
      exact ⟨(.slice none 0 0), 0, 0, (.slice none 0 0), 0, 0, rfl, (own_nil _ 0 108 18), ⟨.inl rfl⟩, (own_nil _ 0 72 2), ⟨.inl rfl⟩, ⟨(.inl rfl)⟩, X18⟩
    ·
      replace hm := ite_f (of_decide_eq_false c2) hm
      refine sw_skip ?_
      refine then_n ?_
      refine sw_seq ?_
      -- region 6 cover.go:288
      refine sw_region [(0, 0), (1, 0), (2, 0), (3, 0), (4, 0), (5, 0), (6, 0), (7, 0), (8, 0)] rfl rfl rfl ?_
      have B19 := (Bx.gr B10 Gw5)
      refine sd_vv rfl rfl rfl (vv_loadW agg_45 rfl B19 rfl) ?_
      refine sd_vv rfl rfl rfl (vv_move rfl) ?_
      have hb := bnd hm; clear hm; obtain ⟨x2, hx2, hm⟩ := hb
      refine sd_ev rfl rfl rfl (ev_call en_74 rfl (cover_enter_w p1 p2 _ _ _ _ _ hx2 _ B15)) ?_
      rintro _ w8 ⟨rfl, Gw8⟩
      have z20 := Gw8.size
      refine sd_vv rfl rfl rfl (vv_move rfl) ?_
      refine sd_vv rfl rfl rfl (vv_extract rfl rfl) ?_
      refine sd_vv rfl rfl rfl (vv_extract rfl rfl) ?_
      refine sd_ev rfl rfl rfl (ev_alloc (cs := Tcover_tree.cs (Tcover_tree.mk 0#8 0 0)) zv_134 rfl) ?_
      rintro _ w9 ⟨b9, rfl, hbw9, Bw9, Gw9⟩
      have z21 := Gw9.size
      have lt22 := Bw9.lt
      refine sd_ev rfl rfl rfl (ev_stM (cs' := Tcover_tree.cs x2.1) (vs := Tcover_tree.cs x2.1) (agg_134).siz rfl rfl rfl rfl rfl Bw9 rfl rfl) ?_
      rintro _ w10 ⟨Bw10, Mw10⟩
      have z23 := Mw10.size
      refine sd_vv rfl rfl rfl (vv_assign rfl) ?_
      refine sd_done ?_
      refine sw_seq ?_
      refine sw_seq ?_
      -- region 7 cover.go:289
      refine sw_region [(0, 0), (1, 0)] rfl rfl rfl ?_
      refine sd_vv rfl rfl rfl (vv_move rfl) ?_
      refine sd_vv rfl rfl rfl (vv_neq (a := x2.2) (b := 0) rfl rfl) ?_
      refine sd_done ?_
      refine sw_cond rfl (fun c3 => ?_) (fun c3 => ?_)
      ·
        replace hm := ite_t (of_decide_eq_true c3) hm
        refine sw_seq ?_
        -- region 8 cover.go:290
        refine sw_region [(0, 0), (1, 0), (2, 0), (3, 0)] rfl rfl rfl ?_
        refine sd_vv rfl rfl rfl (vv_build (cs := THeader.cs (THeader.mk [] 0#64 [] k0 k0) (.slice none 0 0) (.slice none 0 0)) bs_28 rfl rfl) ?_
        refine sd_vv rfl rfl rfl (vv_move rfl) ?_
        have B24 := (Bx.md (Bx.gr (Bx.gr (Bx.gr Bw4 Gw5) Gw8) Gw9) Mw10)
        refine sd_ev rfl rfl rfl (ev_stM (cs' := THeader.cs (THeader.mk [] 0#64 [] k0 k0) (.slice none 0 0) (.slice none 0 0)) (vs := THeader.cs (THeader.mk [] 0#64 [] k0 k0) (.slice none 0 0) (.slice none 0 0)) (agg_28).siz rfl rfl rfl rfl (THeader.cs_ones _ _ _ rfl rfl) B24 rfl rfl) ?_
        rintro _ w11 ⟨Bw11, Mw11⟩
        have z25 := Mw11.size
        refine sd_vv rfl rfl rfl (vv_assign rfl) ?_
        refine sd_done ?_
        refine sw_ret ?_
        refine then_r ?_
        have X26 : Gr w w11 := (Gr.md (Gr.md (Gr.trans (Gr.trans (Gr.trans (Gr.trans (Gr.trans (Gr.trans (Gr.trans (Gr.refl w) Gw1) Gw2) Gw3) Gw4) Gw5) Gw8) Gw9) Mw10) Mw11)
        have hr := Option.some.inj hm
        subst hr
        refine ⟨_, _, rfl, res_2 rfl (rv_cellW agg_28 rfl Bw11 rfl) (rv_tmp rfl), ?_⟩
        exact ⟨(.slice none 0 0), 0, 0, (.slice none 0 0), 0, 0, rfl, (own_nil _ 0 108 18), ⟨.inl rfl⟩, (own_nil _ 0 72 2), ⟨.inl rfl⟩, ⟨(.inl rfl)⟩, X26⟩
      ·
        replace hm := ite_f (of_decide_eq_false c3) hm
        refine sw_skip ?_
        refine then_n ?_
        refine sw_seq ?_
        -- region 9 cover.go:292
        refine sw_region [(0, 0), (1, 0), (2, 0), (3, 0), (4, 0)] rfl rfl rfl ?_
        have B27 := (Bx.md (Bx.gr (Bx.gr (Bx.gr (Bx.gr Bw3 Gw4) Gw5) Gw8) Gw9) Mw10)
        refine sd_vv rfl rfl rfl (vv_loadW agg_26 rfl B27 rfl) ?_
        refine sd_ev rfl rfl rfl (ev_call en_86 rfl (derive_c p3 (un8 53#8) (un8_nn _) (un8_le _) 0#64 _)) ?_
        rintro _ w12 ⟨rfl, Gw12⟩
        have z28 := Gw12.size
        refine sd_vv rfl rfl rfl (vv_build (cs := THeader.cs (THeader.mk [] 0#64 [] k0 (drv p3 (un8 53#8) 0#64)) (.slice none 0 0) (.slice none 0 0)) bs_28 rfl (fill_M rfl rfl rfl (by kernel_rfl))) ?_
        refine sd_ev rfl rfl rfl (ev_alloc (cs := THeader.cs (THeader.mk [] 0#64 [] k0 k0) (.slice none 0 0) (.slice none 0 0)) zv_28 rfl) ?_
        rintro _ w13 ⟨b13, rfl, hbw13, Bw13, Gw13⟩
        have z29 := Gw13.size
        have lt30 := Bw13.lt
        refine sd_ev rfl rfl rfl (ev_stM (cs' := THeader.cs (THeader.mk [] 0#64 [] k0 (drv p3 (un8 53#8) 0#64)) (.slice none 0 0) (.slice none 0 0)) (vs := THeader.cs (THeader.mk [] 0#64 [] k0 (drv p3 (un8 53#8) 0#64)) (.slice none 0 0) (.slice none 0 0)) (agg_28).siz rfl rfl rfl rfl (THeader.cs_ones _ _ _ rfl rfl) Bw13 rfl rfl) ?_
        rintro _ w14 ⟨Bw14, Mw14⟩
        have z31 := Mw14.size
        refine sd_done ?_
        refine sw_seq ?_
        refine sw_seq ?_
        -- region 10 cover.go:293
        refine sw_region [(0, 0), (1, 0), (2, 0)] rfl rfl rfl ?_
        refine sd_vv rfl rfl rfl (vv_move rfl) ?_
        have B32 := (Rd.md (Rd.gr (Rd.gr (Rd.md (Rd.gr (Rd.gr B15 Gw8) Gw9) Mw10 (tk1 ((pv_lt (A := (fun x => x ≠ b9)) lt1) : zp2 = 0 ∨ gp2 ≠ b9))) Gw12) Gw13) Mw14 (tk1 ((pv_lt (A := (fun x => x ≠ b13)) lt1) : zp2 = 0 ∨ gp2 ≠ b13)))
        refine sd_vv rfl rfl rfl (vv_lenT (l := p2) (c := TSubset.cs) Try.underlying48 rfl B32) ?_
        refine sd_vv rfl rfl rfl (vv_move rfl) ?_
        refine sd_done ?_
        refine sw_block ?_
        have X33 : Gr w w14 := (Gr.md (Gr.trans (Gr.trans (Gr.md (Gr.trans (Gr.trans (Gr.trans (Gr.trans (Gr.trans (Gr.trans (Gr.trans (Gr.refl w) Gw1) Gw2) Gw3) Gw4) Gw5) Gw8) Gw9) Mw10) Gw12) Gw13) Mw14)
        refine sw_loopD (α := Nat × Int × List TItem × Value × Nat × Nat) [15, 41, 42, 43, 44, 45, 46, 47, 48, 49, 50, 51, 52, 53, 54, 55, 56, 57, 58] (fun ⟨n1, a6, a7, vy8, zy8, gy8⟩ => [(41, .int .i64 a6)]) (fun ⟨n1, a6, a7, vy8, zy8, gy8⟩ wr => (fixN (cover_Seal_L1 p0 p2 p3 x2) n1 (a6, a7) = some r) ∧ Own wr zy8 gy8 108 18 vy8 (a7.map TItem.cs) ∧ Hdn (zy8 = 0 ∨ w14.heap.size ≤ gy8) ∧ Bx wr b13 28 (THeader.cs (THeader.mk a7 0#64 [] k0 (drv p3 (un8 53#8) 0#64)) vy8 (.slice none 0 0)) ∧ Kz [(1, b13)] w14 wr) (fun ⟨n1, a6, a7, vy8, zy8, gy8⟩ => n1) ⟨FUEL, 0, [], (.slice none 0 0), 0, 0⟩ ?_ ?_ ?_
        · repeat' first | exact trivial | refine ⟨rfl, ?_⟩
        · exact ⟨hm, (own_nil _ 0 108 18), ⟨(.inl rfl)⟩, Bw14, Kz.refl _ _⟩
        · clear hm; rintro ⟨n1, a6, a7, vy8, zy8, gy8⟩ w15 ⟨hm, Fw15_0, Fw15_1, Fw15_2, Kw15⟩
          have z34 := Kw15.size
          have lt35 := Fw15_0.lth
          have lt36 := Fw15_2.lt
          have hb := fix_succ hm; clear hm; obtain ⟨n1, rfl, hm⟩ := hb
          generalize hrec1 : fixN (cover_Seal_L1 p0 p2 p3 x2) n1 = rec1 at hm
          unfold cover_Seal_L1 at hm
          try dsimp only at hm
          refine sw_seq ?_
          -- region 11 cover.go:293
          refine sw_region [(0, 0)] rfl rfl rfl ?_
          refine sd_vv rfl rfl rfl (vv_lss (a := a6) (b := (p2.length : Int)) rfl rfl) ?_
          refine sd_done ?_
          refine sw_seq ?_
          refine sw_cond rfl (fun c4 => ?_) (fun c4 => ?_)
          ·
            replace hm := ite_t (of_decide_eq_true c4) hm
            refine sw_skip ?_
            refine then_n ?_
            refine sw_seq ?_
            refine sw_block ?_
            refine sw_seq ?_
            -- region 12 cover.go:293
            refine sw_region [(0, 0), (1, 0), (2, 0), (3, 0)] rfl rfl rfl ?_
            have hb := bnd hm; clear hm; obtain ⟨y9, hy9, hm⟩ := hb
            have B37 := (Rd.kz B32 Kw15 (tk1 ((pv_lt (A := (fun x => x ≠ b13)) lt1) : zp2 = 0 ∨ gp2 ≠ b13)))
            refine sd_vv rfl rfl rfl (vv_ixT (i := a6) Try.underlying48 (agg_47).siz rfl B37 rfl hy9) ?_
            refine sd_vv rfl rfl rfl (vv_elWT agg_47 rfl B37 hy9 (by first | rfl | omega)) ?_
            refine sd_ev rfl rfl rfl (ev_alloc (cs := TSubset.cs (TSubset.mk 0 0)) zv_47 rfl) ?_
            rintro _ w16 ⟨b16, rfl, hbw16, Bw16, Gw16⟩
            have z38 := Gw16.size
            have lt39 := Bw16.lt
            refine sd_ev rfl rfl rfl (ev_stM (cs' := TSubset.cs y9) (vs := TSubset.cs y9) (agg_47).siz rfl rfl rfl rfl rfl Bw16 rfl rfl) ?_
            rintro _ w17 ⟨Bw17, Mw17⟩
            have z40 := Mw17.size
            refine sd_done ?_
            -- region 13 cover.go:294 DRAWS
            refine sw_drawN [([b13] ++ zf zy8 gy8), ([] ++ zf zy8 gy8)] [(13, [1])] (.leaf [(0, 10), (1, 11), (2, 10), (3, 10), (4, 10), (5, 10), (7, 10), (6, 0), (8, 0), (9, 10), (10, 0), (11, 0), (12, 10), (13, 0)]) (by kernel_rfl) (by kernel_rfl) rfl (by kernel_rfl) ?_
            intro w18 Gw18 zw18
            refine sdz_leaf ?_
            refine dd_hn 0 rfl rfl rfl rfl (Kp.refl ([b13] ++ zf zy8 gy8) w18) (fun w hS => vv_fieldAddr fa_28_0 rfl) ?_
            have B41 := (Bx.gr (Bx.md (Bx.gr Fw15_2 Gw16) Mw17) Gw18)
            refine dd_hn 1 rfl rfl rfl rfl (Kp.refl ([] ++ zf zy8 gy8) w18) (fun w hS => vv_load1 (v := vy8) one_22 rfl (Bx.kp B41 hS (tk1 ((pv_0 (A := (fun x => x ≠ b13)) Fw15_1) : zy8 = 0 ∨ gy8 ≠ b13))) rfl) ?_
            have B42 := (Bx.gr Bw17 Gw18)
            refine dd_hn 0 rfl rfl rfl rfl (Kp.refl ([b13] ++ zf zy8 gy8) w18) (fun w hS => vv_loadW agg_47 rfl (Bx.kp B42 hS (tk1 ((pv_lt (A := (fun x => x ≠ b16)) lt35) : zy8 = 0 ∨ gy8 ≠ b16))) rfl) ?_
            have B43 := (Bx.gr (Bx.md (Bx.gr (Bx.kz (Bx.md (Bx.gr (Bx.gr Bw10 Gw12) Gw13) Mw14) Kw15) Gw16) Mw17) Gw18)
            refine dd_hn 0 rfl rfl rfl rfl (Kp.refl ([b13] ++ zf zy8 gy8) w18) (fun w hS => vv_loadW agg_134 rfl (Bx.kp B43 hS (tk1 ((pv_0 (A := (fun x => x ≠ b9)) Fw15_1) : zy8 = 0 ∨ gy8 ≠ b9))) rfl) ?_
            have B44 := (Bx.gr (Bx.md (Bx.gr (Bx.kz (Bx.md (Bx.gr (Bx.gr (Bx.md (Bx.gr (Bx.gr (Bx.gr (Bx.gr (Bx.gr (Bx.gr Bw1 Gw2) Gw3) Gw4) Gw5) Gw8) Gw9) Mw10) Gw12) Gw13) Mw14) Kw15) Gw16) Mw17) Gw18)
            refine dd_hn 0 rfl rfl rfl rfl (Kp.refl ([b13] ++ zf zy8 gy8) w18) (fun w hS => vv_loadW agg_26 rfl (Bx.kp B44 hS (tk1 ((pv_0 (A := (fun x => x ≠ b1)) Fw15_1) : zy8 = 0 ∨ gy8 ≠ b1))) rfl) ?_
            refine dd_hn 0 rfl rfl rfl rfl (Kp.refl ([b13] ++ zf zy8 gy8) w18) (fun w hS => vv_loadW agg_47 rfl (Bx.kp B42 hS (tk1 ((pv_lt (A := (fun x => x ≠ b16)) lt35) : zy8 = 0 ∨ gy8 ≠ b16))) rfl) ?_
            have B45 := (Bx.gr (Bx.md (Bx.gr (Bx.kz (Bx.md (Bx.gr (Bx.gr B27 Gw12) Gw13) Mw14) Kw15) Gw16) Mw17) Gw18)
            refine dd_hn 0 rfl rfl rfl rfl (Kp.refl ([b13] ++ zf zy8 gy8) w18) (fun w hS => vv_loadW agg_26 rfl (Bx.kp B45 hS (tk1 ((pv_0 (A := (fun x => x ≠ b3)) Fw15_1) : zy8 = 0 ∨ gy8 ≠ b3))) rfl) ?_
            have hb := bnd hm; clear hm; obtain ⟨x10, hx10, hm⟩ := hb
            refine dd_z [] rfl rfl rfl (ev_call en_88 rfl (cover_tree_key_w x2.1 p0 y9 _ hx10 _)) ⟨fun _ => tk0, fun _ => tk0, trivial⟩ ?_
            rintro _ w19 ⟨rfl, Gw19⟩
            have z46 := Gw19.size
            refine ⟨Kz.ofGr Gw19, ?_⟩
            refine dd_z [] rfl rfl rfl (ev_call en_87 rfl (encr_c x10 p3 _)) ⟨fun _ => tk0, fun _ => tk0, trivial⟩ ?_
            rintro _ w20 ⟨rfl, Gw20⟩
            have z47 := Gw20.size
            refine ⟨Kz.ofGr Gw20, ?_⟩
            have S48 := (Kp.gr (Kp.gr (Kp.refl ([b13] ++ zf zy8 gy8) w18) Gw19) Gw20)
            refine dd_hn 0 rfl rfl rfl rfl S48 (fun w hS => vv_build (cs := TItem.cs (TItem.mk y9 (encr x10 p3))) bs_108 rfl (fill_M rfl rfl rfl (fill_M rfl rfl rfl (by kernel_rfl)))) ?_
            refine dd_z [] rfl rfl rfl (ev_litT [(TItem.mk y9 (encr x10 p3))] TItem.cs bsl_22_1 rfl rfl (ws_of rfl) rfl rfl rfl) ⟨fun _ => tk0, fun _ => tk0, trivial⟩ ?_
            rintro vw21 w21 ⟨gw21, hbw21, Ow21, Gw21⟩
            have z49 := Gw21.size
            have lt50 := Ow21.lth
            refine ⟨Kz.ofGr Gw21, ?_⟩
            have B51 := (Own.gr (Own.gr (Own.gr (Own.gr (Own.md (Own.gr Fw15_0 Gw16) Mw17 (tk1 ((pv_lt (A := (fun x => x ≠ b16)) lt35) : zy8 = 0 ∨ gy8 ≠ b16))) Gw18) Gw19) Gw20) Gw21)
            have hb := bnd hm; clear hm; obtain ⟨l11, hl11, hm⟩ := hb
            refine dd_z [(zy8, gy8)] rfl rfl rfl (ev_appT (l := a7) (m := [(TItem.mk y9 (encr x10 p3))]) (c := TItem.cs) apt_22 rfl rfl B51 (Own.rd Ow21) hl11 (by decide)) ⟨fun _ => (tk1 (tk0 : zy8 = 0 ∨ (gy8 = gy8 ∧ zy8 ≠ 0) ∨ w18.heap.size ≤ gy8)), fun _ => (tk1 (tk0 : zy8 = 0 ∨ (gy8 = gy8 ∧ zy8 ≠ 0) ∨ w18.heap.size ≤ gy8)), trivial⟩ ?_
            rintro vw22 w22 ⟨zw22, gw22, Ow22, Aw22, qw22, rw22⟩
            have z52 := Aw22.size
            refine ⟨Kz.ofKa Aw22, ?_⟩
            have S53 := (Kp.ka (Kp.gr S48 Gw21) Aw22 (tk1 (tk0 : zy8 = 0 ∨ (gy8 = gy8 ∧ zy8 ≠ 0) ∨ w18.heap.size ≤ gy8)))
            refine dd_hn 0 rfl rfl rfl rfl S53 (fun w hS => vv_fieldAddr fa_28_0 rfl) ?_
            have B54 := (Bx.ka (Bx.gr (Bx.gr (Bx.gr B41 Gw19) Gw20) Gw21) Aw22 (tk1 ((pv_0 (A := (fun x => x ≠ b13)) Fw15_1) : zy8 = 0 ∨ gy8 ≠ b13)))
            refine dd_z [(1, b13)] rfl rfl rfl (ev_st1 (cs' := THeader.cs (THeader.mk l11 0#64 [] k0 (drv p3 (un8 53#8) 0#64)) vw22 (.slice none 0 0)) (one_22).siz rfl rfl (Own.oneB Ow22) B54 rfl rfl) ⟨fun _ => tk0, nofun, trivial⟩ ?_
            rintro _ w23 ⟨Bw23, Mw23⟩
            have z55 := Mw23.size
            refine ⟨Kz.ofMd Mw23, ?_⟩
            refine sd_nil ?_
            refine block_n ?_
            refine then_n ?_
            -- region 14 cover.go:293
            refine sw_region [(0, 0), (1, 0)] rfl rfl rfl ?_
            refine sd_vv rfl rfl rfl (vv_add (k := .i64) (a := a6) (b := 1) rfl rfl) ?_
            refine sd_vv rfl rfl rfl (vv_move rfl) ?_
            refine sd_nil ?_
            have K_56 : Kz [(1, b13)] w14 w23 := (Kz.md (Kz.ka (Kz.gr (Kz.gr (Kz.gr (Kz.gr (Kz.md (Kz.gr Kw15 Gw16) Mw17) Gw18) Gw19) Gw20) Gw21) Aw22 (tk1 ((pv_0 (A := (fun x => w14.heap.size ≤ x)) Fw15_1) : zy8 = 0 ∨ w14.heap.size ≤ gy8))) Mw23)
            have B57 := (Own.md Ow22 Mw23 (tk1 ((pv_app (A := (fun x => x ≠ b13)) rw22 (pv_0 (A := (fun x => x ≠ b13)) Fw15_1)) : zw22 = 0 ∨ gw22 ≠ b13)))
            subst hrec1
            refine ⟨rfl, ⟨n1, w64 (a6 + 1), l11, vw22, zw22, gw22⟩, ?_, ⟨hm, B57, ⟨(pv_app (A := (fun x => w14.heap.size ≤ x)) rw22 (pv_0 (A := (fun x => w14.heap.size ≤ x)) Fw15_1))⟩, Bw23, K_56⟩, Nat.lt_succ_self _⟩
            repeat' first | exact trivial | refine ⟨rfl, ?_⟩
          ·
            replace hm := ite_f (of_decide_eq_false c4) hm
            refine sw_exit ?_
            refine then_x ?_
            refine then_x ?_
            refine block_x ?_
            refine then_n ?_
            refine sw_seq ?_
            -- region 15 cover.go:296
            refine sw_region [(0, 0), (1, 0), (2, 0)] rfl rfl rfl ?_
            refine sd_vv rfl rfl rfl (vv_loadW agg_28 rfl Fw15_2 rfl) ?_
            have B58 := (Bx.kz (Bx.md (Bx.gr (Bx.gr (Bx.md (Bx.gr (Bx.gr (Bx.gr Bw4 Gw5) Gw8) Gw9) Mw10) Gw12) Gw13) Mw14) Kw15)
            refine sd_ev rfl rfl rfl (ev_stM (cs' := THeader.cs (THeader.mk a7 0#64 [] k0 (drv p3 (un8 53#8) 0#64)) vy8 (.slice none 0 0)) (vs := THeader.cs (THeader.mk a7 0#64 [] k0 (drv p3 (un8 53#8) 0#64)) vy8 (.slice none 0 0)) (agg_28).siz rfl rfl rfl rfl (THeader.cs_ones _ _ _ (Own.oneB Fw15_0) rfl) B58 rfl rfl) ?_
            rintro _ w24 ⟨Bw24, Mw24⟩
            have z59 := Mw24.size
            refine sd_vv rfl rfl rfl (vv_assign rfl) ?_
            refine sd_done ?_
            refine sw_ret ?_
            have B60 := (Own.md Fw15_0 Mw24 (tk1 ((pv_0 (A := (fun x => x ≠ b4)) Fw15_1) : zy8 = 0 ∨ gy8 ≠ b4)))
            have X61 : Gr w w24 := (Gr.md (Gr.kz X33 Kw15) Mw24)
            have hr := Option.some.inj hm
            subst hr
            refine ⟨_, _, rfl, res_2 rfl (rv_cellW agg_28 rfl Bw24 rfl) (rv_tmp rfl), ?_⟩
            exact ⟨vy8, zy8, gy8, (.slice none 0 0), 0, 0, rfl, B60, ⟨(pv_0 (A := (fun x => w.heap.size ≤ x)) Fw15_1)⟩, (own_nil _ 0 72 2), ⟨.inl rfl⟩, ⟨(.inl rfl)⟩, X61⟩

set_option maxHeartbeats 2000000 in
theorem ref03_Seal_w (p0 : W2) (p1 : TScheme) (p2 : List TSubset) (p3 : W2) (vp2 : Value) (zp2 gp2 op2 : Nat) (r : THeader × Int) (hm : ref03_Seal p0 p1 p2 p3 = some r) (w : World) (hp2 : Rd w zp2 gp2 op2 2 vp2 (p2.map TSubset.cs))  :
    Calls Try.prog 39 [kv p0, .agg (TScheme.cs p1).toArray, vp2, kv p3].toArray w fun e w' => ∃ v, e = .returned v ∧ (∃ (ur0_0 : Value) (zr0_0 : Nat) (gr0_0 : Nat) (ur0_2 : Value) (zr0_2 : Nat) (gr0_2 : Nat), v = .tuple [.agg (THeader.cs r.1 ur0_0 ur0_2).toArray, .int .i64 r.2].toArray ∧ Own w' zr0_0 gr0_0 108 18 ur0_0 (r.1.Items.map TItem.cs) ∧ Hdn (zr0_0 = 0 ∨ w.heap.size ≤ gr0_0) ∧ Own w' zr0_2 gr0_2 72 2 ur0_2 (r.1.Points.map TPoint.cs) ∧ Hdn (zr0_2 = 0 ∨ w.heap.size ≤ gr0_2) ∧ Hdn (zr0_2 = 0 ∨ zr0_0 = 0 ∨ gr0_2 ≠ gr0_0) ∧ Gr w w') := by
  have lt1 := hp2.lth
  unfold ref03_Seal at hm
  refine calls_of_sw (R := fun v w' => ∃ (ur0_0 : Value) (zr0_0 : Nat) (gr0_0 : Nat) (ur0_2 : Value) (zr0_2 : Nat) (gr0_2 : Nat), v = .tuple [.agg (THeader.cs r.1 ur0_0 ur0_2).toArray, .int .i64 r.2].toArray ∧ Own w' zr0_0 gr0_0 108 18 ur0_0 (r.1.Items.map TItem.cs) ∧ Hdn (zr0_0 = 0 ∨ w.heap.size ≤ gr0_0) ∧ Own w' zr0_2 gr0_2 72 2 ur0_2 (r.1.Points.map TPoint.cs) ∧ Hdn (zr0_2 = 0 ∨ w.heap.size ≤ gr0_2) ∧ Hdn (zr0_2 = 0 ∨ zr0_0 = 0 ∨ gr0_2 ≠ gr0_0) ∧ Gr w w') 64 Try.func39 rfl rfl rfl ?_
  refine sw_seq ?_
  -- region 0 ref.go:466
  refine sw_region [(0, 0), (1, 0), (2, 0), (3, 0), (4, 0)] rfl rfl rfl ?_
  refine sd_ev rfl rfl rfl (ev_box (cs := kb p0) rfl rfl) ?_
  rintro _ w1 ⟨b1, rfl, hbw1, Bw1, Gw1⟩
  have z2 := Gw1.size
  have lt3 := Bw1.lt
  refine sd_ev rfl rfl rfl (ev_box (cs := TScheme.cs p1) rfl rfl) ?_
  rintro _ w2 ⟨b2, rfl, hbw2, Bw2, Gw2⟩
  have z4 := Gw2.size
  have lt5 := Bw2.lt
  refine sd_ev rfl rfl rfl (ev_box (cs := kb p3) rfl rfl) ?_
  rintro _ w3 ⟨b3, rfl, hbw3, Bw3, Gw3⟩
  have z6 := Gw3.size
  have lt7 := Bw3.lt
  refine sd_ev rfl rfl rfl (ev_alloc (cs := THeader.cs (THeader.mk [] 0#64 [] k0 k0) (.slice none 0 0) (.slice none 0 0)) zv_28 rfl) ?_
  rintro _ w4 ⟨b4, rfl, hbw4, Bw4, Gw4⟩
  have z8 := Gw4.size
  have lt9 := Bw4.lt
  refine sd_vv rfl rfl rfl (vv_assign rfl) ?_
  refine sd_done ?_
  refine sw_seq ?_
  refine sw_seq ?_
  -- region 1 ref.go:467
  refine sw_region [(0, 0), (1, 0), (2, 0)] rfl rfl rfl ?_
  have B10 := (Bx.gr (Bx.gr Bw2 Gw3) Gw4)
  refine sd_vv rfl rfl rfl (vv_loadW agg_45 rfl B10 rfl) ?_
  have hb := bnd hm; clear hm; obtain ⟨x1, hx1, hm⟩ := hb
  refine sd_ev rfl rfl rfl (ev_call en_59 rfl (ref03_Valid_w p1 _ hx1 _)) ?_
  rintro _ w5 ⟨rfl, Gw5⟩
  have z11 := Gw5.size
  refine sd_vv rfl rfl rfl (vv_not rfl) ?_
  refine sd_done ?_
  refine sw_cond rfl (fun c1 => ?_) (fun c1 => ?_)
  ·
    replace hm := cnd_t c1 hm
    refine sw_seq ?_
    -- region 2 ref.go:468
    refine sw_region [(0, 0), (1, 0), (2, 0)] rfl rfl rfl ?_
    refine sd_vv rfl rfl rfl (vv_build (cs := THeader.cs (THeader.mk [] 0#64 [] k0 k0) (.slice none 0 0) (.slice none 0 0)) bs_28 rfl rfl) ?_
    have B12 := (Bx.gr Bw4 Gw5)
    refine sd_ev rfl rfl rfl (ev_stM (cs' := THeader.cs (THeader.mk [] 0#64 [] k0 k0) (.slice none 0 0) (.slice none 0 0)) (vs := THeader.cs (THeader.mk [] 0#64 [] k0 k0) (.slice none 0 0) (.slice none 0 0)) (agg_28).siz rfl rfl rfl rfl (THeader.cs_ones _ _ _ rfl rfl) B12 rfl rfl) ?_
    rintro _ w6 ⟨Bw6, Mw6⟩
    have z13 := Mw6.size
    refine sd_vv rfl rfl rfl (vv_assign rfl) ?_
    refine sd_done ?_
    refine sw_ret ?_
    refine then_r ?_
    have X14 : Gr w w6 := (Gr.md (Gr.trans (Gr.trans (Gr.trans (Gr.trans (Gr.trans (Gr.refl w) Gw1) Gw2) Gw3) Gw4) Gw5) Mw6)
    have hr := Option.some.inj hm
    subst hr
    refine ⟨_, _, rfl, res_2 rfl (rv_cellW agg_28 rfl Bw6 rfl) (rv_tmp rfl), ?_⟩
    exact ⟨(.slice none 0 0), 0, 0, (.slice none 0 0), 0, 0, rfl, (own_nil _ 0 108 18), ⟨.inl rfl⟩, (own_nil _ 0 72 2), ⟨.inl rfl⟩, ⟨(.inl rfl)⟩, X14⟩
  ·
    replace hm := cnd_f c1 hm
    refine sw_skip ?_
    refine then_n ?_
    refine sw_seq ?_
    refine sw_seq ?_
    -- region 3 ref.go:470
    refine sw_region [(0, 0), (1, 0), (2, 0)] rfl rfl rfl ?_
    refine sd_vv rfl rfl rfl (vv_move rfl) ?_
    have B15 := (Rd.gr (Rd.gr (Rd.gr (Rd.gr (Rd.gr hp2 Gw1) Gw2) Gw3) Gw4) Gw5)
    refine sd_vv rfl rfl rfl (vv_lenT (l := p2) (c := TSubset.cs) Try.underlying48 rfl B15) ?_
    refine sd_vv rfl rfl rfl (vv_gtr (a := (p2.length : Int)) (b := 64) rfl rfl) ?_
    refine sd_done ?_
    refine sw_cond rfl (fun c2 => ?_) (fun c2 => ?_)
    ·
      replace hm := ite_t (of_decide_eq_true c2) hm
      refine sw_seq ?_
      -- region 4 ref.go:471
      refine sw_region [(0, 0), (1, 0), (2, 0)] rfl rfl rfl ?_
      refine sd_vv rfl rfl rfl (vv_build (cs := THeader.cs (THeader.mk [] 0#64 [] k0 k0) (.slice none 0 0) (.slice none 0 0)) bs_28 rfl rfl) ?_
      have B16 := (Bx.gr Bw4 Gw5)
      refine sd_ev rfl rfl rfl (ev_stM (cs' := THeader.cs (THeader.mk [] 0#64 [] k0 k0) (.slice none 0 0) (.slice none 0 0)) (vs := THeader.cs (THeader.mk [] 0#64 [] k0 k0) (.slice none 0 0) (.slice none 0 0)) (agg_28).siz rfl rfl rfl rfl (THeader.cs_ones _ _ _ rfl rfl) B16 rfl rfl) ?_
      rintro _ w7 ⟨Bw7, Mw7⟩
      have z17 := Mw7.size
      refine sd_vv rfl rfl rfl (vv_assign rfl) ?_
      refine sd_done ?_
      refine sw_ret ?_
      refine then_r ?_
      have X18 : Gr w w7 := (Gr.md (Gr.trans (Gr.trans (Gr.trans (Gr.trans (Gr.trans (Gr.refl w) Gw1) Gw2) Gw3) Gw4) Gw5) Mw7)
      have hr := Option.some.inj hm
      subst hr
      refine ⟨_, _, rfl, res_2 rfl (rv_cellW agg_28 rfl Bw7 rfl) (rv_tmp rfl), ?_⟩
      exact ⟨(.slice none 0 0), 0, 0, (.slice none 0 0), 0, 0, rfl, (own_nil _ 0 108 18), ⟨.inl rfl⟩, (own_nil _ 0 72 2), ⟨.inl rfl⟩, ⟨(.inl rfl)⟩, X18⟩
    ·
      replace hm := ite_f (of_decide_eq_false c2) hm
      refine sw_skip ?_
      refine then_n ?_
      refine sw_seq ?_
      refine sw_seq ?_
      -- region 5 ref.go:473
      refine sw_region [(0, 0)] rfl rfl rfl ?_
      refine sd_vv rfl rfl rfl (vv_assign rfl) ?_
      refine sd_done ?_
      refine sw_block ?_
      have X19 : Gr w w5 := (Gr.trans (Gr.trans (Gr.trans (Gr.trans (Gr.trans (Gr.refl w) Gw1) Gw2) Gw3) Gw4) Gw5)
      refine sw_loopD (α := Nat × Int) [9, 10, 21, 22, 23, 24, 25, 26, 27, 28, 29, 30, 31, 32, 33, 34] (fun ⟨n1, a3⟩ => [(9, .int .i64 0), (10, .int .i64 a3)]) (fun ⟨n1, a3⟩ wr => (fixN (ref03_Seal_L1 p0 p1 p2 p3) n1 a3 = some r) ∧ Kz [] w5 wr) (fun ⟨n1, a3⟩ => n1) ⟨FUEL, 0⟩ ?_ ?_ ?_
      · repeat' first | exact trivial | refine ⟨rfl, ?_⟩
      · exact ⟨hm, Kz.refl _ _⟩
      · clear hm; rintro ⟨n1, a3⟩ w8 ⟨hm, Kw8⟩
        have z20 := Kw8.size
        have hb := fix_succ hm; clear hm; obtain ⟨n1, rfl, hm⟩ := hb
        generalize hrec1 : fixN (ref03_Seal_L1 p0 p1 p2 p3) n1 = rec1 at hm
        unfold ref03_Seal_L1 at hm
        try dsimp only at hm
        refine sw_seq ?_
        refine sw_seq ?_
        -- region 6 ref.go:473
        refine sw_region [(0, 0), (1, 0), (2, 0), (3, 0)] rfl rfl rfl ?_
        refine sd_vv rfl rfl rfl (vv_move rfl) ?_
        refine sd_vv rfl rfl rfl (vv_move rfl) ?_
        have B21 := (Rd.kz B15 Kw8)
        refine sd_vv rfl rfl rfl (vv_lenT (l := p2) (c := TSubset.cs) Try.underlying48 rfl B21) ?_
        refine sd_vv rfl rfl rfl (vv_lss (a := a3) (b := (p2.length : Int)) rfl rfl) ?_
        refine sd_done ?_
        refine sw_cond rfl (fun c3 => ?_) (fun c3 => ?_)
        ·
          replace hm := ite_t (of_decide_eq_true c3) hm
          refine sw_skip ?_
          refine then_n ?_
          refine sw_seq ?_
          refine sw_block ?_
          refine sw_seq ?_
          -- region 8 ref.go:474 DRAWS
          refine sw_drawN [([])] [] (.leaf [(0, 10), (1, 10), (2, 10), (3, 10), (4, 10), (5, 0), (6, 10)]) (by kernel_rfl) (by kernel_rfl) rfl (by kernel_rfl) ?_
          intro w9 Gw9 zw9
          refine sdz_leaf ?_
          have B22 := (Bx.gr (Bx.kz (Bx.gr B10 Gw5) Kw8) Gw9)
          refine dd_hn 0 rfl rfl rfl rfl (Kp.refl ([]) w9) (fun w hS => vv_loadW agg_45 rfl (Bx.kp B22 hS) rfl) ?_
          refine dd_hn 0 rfl rfl rfl rfl (Kp.refl ([]) w9) (fun w hS => vv_move rfl) ?_
          refine dd_hn 0 rfl rfl rfl rfl (Kp.refl ([]) w9) (fun w hS => vv_move rfl) ?_
          have hb := bnd hm; clear hm; obtain ⟨y4, hy4, hm⟩ := hb
          have B23 := (Rd.gr B21 Gw9)
          refine dd_hn 0 rfl rfl rfl rfl (Kp.refl ([]) w9) (fun w hS => vv_ixT (i := a3) Try.underlying48 (agg_47).siz rfl (Rd.kp B23 hS) rfl hy4) ?_
          refine dd_hn 0 rfl rfl rfl rfl (Kp.refl ([]) w9) (fun w hS => vv_elWT agg_47 rfl (Rd.kp B23 hS) hy4 (by first | rfl | omega)) ?_
          have hb := bnd hm; clear hm; obtain ⟨x5, hx5, hm⟩ := hb
          refine dd_z [] rfl rfl rfl (ev_call en_62 rfl (ref03_IsSubset_w p1 y4 _ hx5 _)) ⟨fun _ => tk0, trivial⟩ ?_
          rintro _ w10 ⟨rfl, Gw10⟩
          have z24 := Gw10.size
          refine ⟨Kz.ofGr Gw10, ?_⟩
          have S25 := (Kp.gr (Kp.refl ([]) w9) Gw10)
          refine dd_hn 0 rfl rfl rfl rfl S25 (fun w hS => vv_not rfl) ?_
          refine sd_done ?_
          refine sw_cond rfl (fun c4 => ?_) (fun c4 => ?_)
          ·
            replace hm := cnd_t c4 hm
            refine sw_seq ?_
            -- region 9 ref.go:475
            refine sw_region [(0, 0), (1, 0), (2, 0)] rfl rfl rfl ?_
            refine sd_vv rfl rfl rfl (vv_build (cs := THeader.cs (THeader.mk [] 0#64 [] k0 k0) (.slice none 0 0) (.slice none 0 0)) bs_28 rfl rfl) ?_
            have B26 := (Bx.gr (Bx.gr (Bx.kz (Bx.gr Bw4 Gw5) Kw8) Gw9) Gw10)
            refine sd_ev rfl rfl rfl (ev_stM (cs' := THeader.cs (THeader.mk [] 0#64 [] k0 k0) (.slice none 0 0) (.slice none 0 0)) (vs := THeader.cs (THeader.mk [] 0#64 [] k0 k0) (.slice none 0 0) (.slice none 0 0)) (agg_28).siz rfl rfl rfl rfl (THeader.cs_ones _ _ _ rfl rfl) B26 rfl rfl) ?_
            rintro _ w11 ⟨Bw11, Mw11⟩
            have z27 := Mw11.size
            refine sd_vv rfl rfl rfl (vv_assign rfl) ?_
            refine sd_done ?_
            refine sw_ret ?_
            refine block_r ?_
            refine then_r ?_
            refine then_r ?_
            refine block_r ?_
            refine then_r ?_
            have X28 : Gr w w11 := (Gr.md (Gr.trans (Gr.trans (Gr.kz X19 Kw8) Gw9) Gw10) Mw11)
            have hr := Option.some.inj hm
            subst hr
            refine ⟨_, _, rfl, res_2 rfl (rv_cellW agg_28 rfl Bw11 rfl) (rv_tmp rfl), ?_⟩
            exact ⟨(.slice none 0 0), 0, 0, (.slice none 0 0), 0, 0, rfl, (own_nil _ 0 108 18), ⟨.inl rfl⟩, (own_nil _ 0 72 2), ⟨.inl rfl⟩, ⟨(.inl rfl)⟩, X28⟩
          ·
            replace hm := cnd_f c4 hm
            refine sw_skip ?_
            refine block_n ?_
            refine then_n ?_
            -- region 7 ref.go:473
            refine sw_region [(0, 0), (1, 0), (2, 0)] rfl rfl rfl ?_
            refine sd_vv rfl rfl rfl (vv_move rfl) ?_
            refine sd_vv rfl rfl rfl (vv_add (k := .i64) (a := a3) (b := 1) rfl rfl) ?_
            refine sd_vv rfl rfl rfl (vv_assign rfl) ?_
            refine sd_nil ?_
            have K_29 : Kz [] w5 w10 := (Kz.gr (Kz.gr Kw8 Gw9) Gw10)
            subst hrec1
            refine ⟨rfl, ⟨n1, w64 (a3 + 1)⟩, ?_, ⟨hm, K_29⟩, Nat.lt_succ_self _⟩
            repeat' first | exact trivial | refine ⟨rfl, ?_⟩
        ·
          replace hm := ite_f (of_decide_eq_false c3) hm
          refine sw_exit ?_
          refine then_x ?_
          refine then_x ?_
          refine block_x ?_
          refine then_n ?_
          refine sw_seq ?_
          -- region 10 ref.go:478
          refine sw_region [(0, 0), (1, 0), (2, 0), (3, 0), (4, 0)] rfl rfl rfl ?_
          have B30 := (Bx.kz (Bx.gr (Bx.gr Bw3 Gw4) Gw5) Kw8)
          refine sd_vv rfl rfl rfl (vv_loadW agg_26 rfl B30 rfl) ?_
          refine sd_ev rfl rfl rfl (ev_call en_89 rfl (rderive_c p3 (un8 53#8) (un8_nn _) (un8_le _) 0#64 _)) ?_
          rintro _ w12 ⟨rfl, Gw12⟩
          have z31 := Gw12.size
          refine sd_vv rfl rfl rfl (vv_build (cs := THeader.cs (THeader.mk [] 0#64 [] k0 (drv p3 (un8 53#8) 0#64)) (.slice none 0 0) (.slice none 0 0)) bs_28 rfl (fill_M rfl rfl rfl (by kernel_rfl))) ?_
          refine sd_ev rfl rfl rfl (ev_alloc (cs := THeader.cs (THeader.mk [] 0#64 [] k0 k0) (.slice none 0 0) (.slice none 0 0)) zv_28 rfl) ?_
          rintro _ w13 ⟨b13, rfl, hbw13, Bw13, Gw13⟩
          have z32 := Gw13.size
          have lt33 := Bw13.lt
          refine sd_ev rfl rfl rfl (ev_stM (cs' := THeader.cs (THeader.mk [] 0#64 [] k0 (drv p3 (un8 53#8) 0#64)) (.slice none 0 0) (.slice none 0 0)) (vs := THeader.cs (THeader.mk [] 0#64 [] k0 (drv p3 (un8 53#8) 0#64)) (.slice none 0 0) (.slice none 0 0)) (agg_28).siz rfl rfl rfl rfl (THeader.cs_ones _ _ _ rfl rfl) Bw13 rfl rfl) ?_
          rintro _ w14 ⟨Bw14, Mw14⟩
          have z34 := Mw14.size
          refine sd_done ?_
          refine sw_seq ?_
          refine sw_seq ?_
          -- region 11 ref.go:479
          refine sw_region [(0, 0)] rfl rfl rfl ?_
          refine sd_vv rfl rfl rfl (vv_assign rfl) ?_
          refine sd_done ?_
          refine sw_block ?_
          have X35 : Gr w w14 := (Gr.md (Gr.trans (Gr.trans (Gr.kz X19 Kw8) Gw12) Gw13) Mw14)
          have B36 := (Rd.md (Rd.gr (Rd.gr B21 Gw12) Gw13) Mw14 (tk1 ((pv_lt (A := (fun x => x ≠ b13)) lt1) : zp2 = 0 ∨ gp2 ≠ b13)))
          refine sw_loopD (α := Nat × Int × List TItem × Value × Nat × Nat) [12, 38, 39, 40, 41, 42, 43, 44, 45, 46, 47, 48, 49, 50, 51, 52, 53, 54, 55, 56, 57, 58, 59, 60, 61, 62] (fun ⟨n2, a9, a10, vy11, zy11, gy11⟩ => [(12, .int .i64 a9)]) (fun ⟨n2, a9, a10, vy11, zy11, gy11⟩ wr => (fixN (ref03_Seal_L2 p0 p1 p2 p3) n2 (a9, a10) = some r) ∧ Own wr zy11 gy11 108 18 vy11 (a10.map TItem.cs) ∧ Hdn (zy11 = 0 ∨ w14.heap.size ≤ gy11) ∧ Bx wr b13 28 (THeader.cs (THeader.mk a10 0#64 [] k0 (drv p3 (un8 53#8) 0#64)) vy11 (.slice none 0 0)) ∧ Kz [(1, b13)] w14 wr) (fun ⟨n2, a9, a10, vy11, zy11, gy11⟩ => n2) ⟨FUEL, 0, [], (.slice none 0 0), 0, 0⟩ ?_ ?_ ?_
          · repeat' first | exact trivial | refine ⟨rfl, ?_⟩
          · exact ⟨hm, (own_nil _ 0 108 18), ⟨(.inl rfl)⟩, Bw14, Kz.refl _ _⟩
          · clear hm; rintro ⟨n2, a9, a10, vy11, zy11, gy11⟩ w15 ⟨hm, Fw15_0, Fw15_1, Fw15_2, Kw15⟩
            have z37 := Kw15.size
            have lt38 := Fw15_0.lth
            have lt39 := Fw15_2.lt
            have hb := fix_succ hm; clear hm; obtain ⟨n2, rfl, hm⟩ := hb
            generalize hrec2 : fixN (ref03_Seal_L2 p0 p1 p2 p3) n2 = rec2 at hm
            unfold ref03_Seal_L2 at hm
            try dsimp only at hm
            refine sw_seq ?_
            refine sw_seq ?_
            -- region 12 ref.go:479
            refine sw_region [(0, 0), (1, 0), (2, 0), (3, 0)] rfl rfl rfl ?_
            refine sd_vv rfl rfl rfl (vv_move rfl) ?_
            refine sd_vv rfl rfl rfl (vv_move rfl) ?_
            have B40 := (Rd.kz B36 Kw15 (tk1 ((pv_lt (A := (fun x => x ≠ b13)) lt1) : zp2 = 0 ∨ gp2 ≠ b13)))
            refine sd_vv rfl rfl rfl (vv_lenT (l := p2) (c := TSubset.cs) Try.underlying48 rfl B40) ?_
            refine sd_vv rfl rfl rfl (vv_lss (a := a9) (b := (p2.length : Int)) rfl rfl) ?_
            refine sd_done ?_
            refine sw_cond rfl (fun c5 => ?_) (fun c5 => ?_)
            ·
              replace hm := ite_t (of_decide_eq_true c5) hm
              refine sw_skip ?_
              refine then_n ?_
              refine sw_seq ?_
              refine sw_block ?_
              -- region 14 ref.go:480 DRAWS
              refine sw_drawN [([b13] ++ zf zy11 gy11), ([] ++ zf zy11 gy11)] [(19, [1])] (.leaf [(0, 10), (1, 11), (2, 10), (3, 10), (4, 10), (5, 10), (6, 10), (7, 10), (8, 10), (9, 10), (10, 10), (11, 10), (13, 10), (12, 0), (14, 0), (15, 10), (16, 0), (17, 0), (18, 10), (19, 0)]) (by kernel_rfl) (by kernel_rfl) rfl (by kernel_rfl) ?_
              intro w16 Gw16 zw16
              refine sdz_leaf ?_
              refine dd_hn 0 rfl rfl rfl rfl (Kp.refl ([b13] ++ zf zy11 gy11) w16) (fun w hS => vv_fieldAddr fa_28_0 rfl) ?_
              have B41 := (Bx.gr Fw15_2 Gw16)
              refine dd_hn 1 rfl rfl rfl rfl (Kp.refl ([] ++ zf zy11 gy11) w16) (fun w hS => vv_load1 (v := vy11) one_22 rfl (Bx.kp B41 hS (tk1 ((pv_0 (A := (fun x => x ≠ b13)) Fw15_1) : zy11 = 0 ∨ gy11 ≠ b13))) rfl) ?_
              refine dd_hn 0 rfl rfl rfl rfl (Kp.refl ([b13] ++ zf zy11 gy11) w16) (fun w hS => vv_move rfl) ?_
              refine dd_hn 0 rfl rfl rfl rfl (Kp.refl ([b13] ++ zf zy11 gy11) w16) (fun w hS => vv_move rfl) ?_
              have hb := bnd hm; clear hm; obtain ⟨y12, hy12, hm⟩ := hb
              have B42 := (Rd.gr B40 Gw16)
              refine dd_hn 0 rfl rfl rfl rfl (Kp.refl ([b13] ++ zf zy11 gy11) w16) (fun w hS => vv_ixT (i := a9) Try.underlying48 (agg_47).siz rfl (Rd.kp B42 hS (tk2 ((pv_lt (A := (fun x => x ≠ b13)) lt1) : zp2 = 0 ∨ gp2 ≠ b13) ((pv_sw (pv_0 (A := (fun x => zp2 = 0 ∨ x ≠ gp2)) Fw15_1 (fun x hx => (tk1 lt1.o)))) : zp2 = 0 ∨ zy11 = 0 ∨ gp2 ≠ gy11))) rfl hy12) ?_
              refine dd_hn 0 rfl rfl rfl rfl (Kp.refl ([b13] ++ zf zy11 gy11) w16) (fun w hS => vv_elWT agg_47 rfl (Rd.kp B42 hS (tk2 ((pv_lt (A := (fun x => x ≠ b13)) lt1) : zp2 = 0 ∨ gp2 ≠ b13) ((pv_sw (pv_0 (A := (fun x => zp2 = 0 ∨ x ≠ gp2)) Fw15_1 (fun x hx => (tk1 lt1.o)))) : zp2 = 0 ∨ zy11 = 0 ∨ gp2 ≠ gy11))) hy12 (by first | rfl | omega)) ?_
              have B43 := (Bx.gr (Bx.kz (Bx.md (Bx.gr (Bx.gr (Bx.kz (Bx.gr (Bx.gr (Bx.gr (Bx.gr Bw1 Gw2) Gw3) Gw4) Gw5) Kw8) Gw12) Gw13) Mw14) Kw15) Gw16)
              refine dd_hn 0 rfl rfl rfl rfl (Kp.refl ([b13] ++ zf zy11 gy11) w16) (fun w hS => vv_loadW agg_26 rfl (Bx.kp B43 hS (tk1 ((pv_0 (A := (fun x => x ≠ b1)) Fw15_1) : zy11 = 0 ∨ gy11 ≠ b1))) rfl) ?_
              have B44 := (Bx.gr (Bx.kz (Bx.md (Bx.gr (Bx.gr (Bx.kz (Bx.gr B10 Gw5) Kw8) Gw12) Gw13) Mw14) Kw15) Gw16)
              refine dd_hn 0 rfl rfl rfl rfl (Kp.refl ([b13] ++ zf zy11 gy11) w16) (fun w hS => vv_loadW agg_45 rfl (Bx.kp B44 hS (tk1 ((pv_0 (A := (fun x => x ≠ b2)) Fw15_1) : zy11 = 0 ∨ gy11 ≠ b2))) rfl) ?_
              refine dd_hn 0 rfl rfl rfl rfl (Kp.refl ([b13] ++ zf zy11 gy11) w16) (fun w hS => vv_move rfl) ?_
              refine dd_hn 0 rfl rfl rfl rfl (Kp.refl ([b13] ++ zf zy11 gy11) w16) (fun w hS => vv_move rfl) ?_
              have hb := bnd hm; clear hm; obtain ⟨y13, hy13, hm⟩ := hb
              refine dd_hn 0 rfl rfl rfl rfl (Kp.refl ([b13] ++ zf zy11 gy11) w16) (fun w hS => vv_ixT (i := a9) Try.underlying48 (agg_47).siz rfl (Rd.kp B42 hS (tk2 ((pv_lt (A := (fun x => x ≠ b13)) lt1) : zp2 = 0 ∨ gp2 ≠ b13) ((pv_sw (pv_0 (A := (fun x => zp2 = 0 ∨ x ≠ gp2)) Fw15_1 (fun x hx => (tk1 lt1.o)))) : zp2 = 0 ∨ zy11 = 0 ∨ gp2 ≠ gy11))) rfl hy13) ?_
              refine dd_hn 0 rfl rfl rfl rfl (Kp.refl ([b13] ++ zf zy11 gy11) w16) (fun w hS => vv_elWT agg_47 rfl (Rd.kp B42 hS (tk2 ((pv_lt (A := (fun x => x ≠ b13)) lt1) : zp2 = 0 ∨ gp2 ≠ b13) ((pv_sw (pv_0 (A := (fun x => zp2 = 0 ∨ x ≠ gp2)) Fw15_1 (fun x hx => (tk1 lt1.o)))) : zp2 = 0 ∨ zy11 = 0 ∨ gp2 ≠ gy11))) hy13 (by first | rfl | omega)) ?_
              have B45 := (Bx.gr (Bx.kz (Bx.md (Bx.gr (Bx.gr B30 Gw12) Gw13) Mw14) Kw15) Gw16)
              refine dd_hn 0 rfl rfl rfl rfl (Kp.refl ([b13] ++ zf zy11 gy11) w16) (fun w hS => vv_loadW agg_26 rfl (Bx.kp B45 hS (tk1 ((pv_0 (A := (fun x => x ≠ b3)) Fw15_1) : zy11 = 0 ∨ gy11 ≠ b3))) rfl) ?_
              have hb := bnd hm; clear hm; obtain ⟨x14, hx14, hm⟩ := hb
              refine dd_z [] rfl rfl rfl (ev_call en_91 rfl (ref03_KeyOf_w p0 p1 y13 _ hx14 _)) ⟨fun _ => tk0, fun _ => tk0, trivial⟩ ?_
              rintro _ w17 ⟨rfl, Gw17⟩
              have z46 := Gw17.size
              refine ⟨Kz.ofGr Gw17, ?_⟩
              refine dd_z [] rfl rfl rfl (ev_call en_90 rfl (rencr_c x14 p3 _)) ⟨fun _ => tk0, fun _ => tk0, trivial⟩ ?_
              rintro _ w18 ⟨rfl, Gw18⟩
              have z47 := Gw18.size
              refine ⟨Kz.ofGr Gw18, ?_⟩
              have S48 := (Kp.gr (Kp.gr (Kp.refl ([b13] ++ zf zy11 gy11) w16) Gw17) Gw18)
              refine dd_hn 0 rfl rfl rfl rfl S48 (fun w hS => vv_build (cs := TItem.cs (TItem.mk y12 (encr x14 p3))) bs_108 rfl (fill_M rfl rfl rfl (fill_M rfl rfl rfl (by kernel_rfl)))) ?_
              refine dd_z [] rfl rfl rfl (ev_litT [(TItem.mk y12 (encr x14 p3))] TItem.cs bsl_22_1 rfl rfl (ws_of rfl) rfl rfl rfl) ⟨fun _ => tk0, fun _ => tk0, trivial⟩ ?_
              rintro vw19 w19 ⟨gw19, hbw19, Ow19, Gw19⟩
              have z49 := Gw19.size
              have lt50 := Ow19.lth
              refine ⟨Kz.ofGr Gw19, ?_⟩
              have B51 := (Own.gr (Own.gr (Own.gr (Own.gr Fw15_0 Gw16) Gw17) Gw18) Gw19)
              have hb := bnd hm; clear hm; obtain ⟨l15, hl15, hm⟩ := hb
              refine dd_z [(zy11, gy11)] rfl rfl rfl (ev_appT (l := a10) (m := [(TItem.mk y12 (encr x14 p3))]) (c := TItem.cs) apt_22 rfl rfl B51 (Own.rd Ow19) hl15 (by decide)) ⟨fun _ => (tk1 (tk0 : zy11 = 0 ∨ (gy11 = gy11 ∧ zy11 ≠ 0) ∨ w16.heap.size ≤ gy11)), fun _ => (tk1 (tk0 : zy11 = 0 ∨ (gy11 = gy11 ∧ zy11 ≠ 0) ∨ w16.heap.size ≤ gy11)), trivial⟩ ?_
              rintro vw20 w20 ⟨zw20, gw20, Ow20, Aw20, qw20, rw20⟩
              have z52 := Aw20.size
              refine ⟨Kz.ofKa Aw20, ?_⟩
              have S53 := (Kp.ka (Kp.gr S48 Gw19) Aw20 (tk1 (tk0 : zy11 = 0 ∨ (gy11 = gy11 ∧ zy11 ≠ 0) ∨ w16.heap.size ≤ gy11)))
              refine dd_hn 0 rfl rfl rfl rfl S53 (fun w hS => vv_fieldAddr fa_28_0 rfl) ?_
              have B54 := (Bx.ka (Bx.gr (Bx.gr (Bx.gr B41 Gw17) Gw18) Gw19) Aw20 (tk1 ((pv_0 (A := (fun x => x ≠ b13)) Fw15_1) : zy11 = 0 ∨ gy11 ≠ b13)))
              refine dd_z [(1, b13)] rfl rfl rfl (ev_st1 (cs' := THeader.cs (THeader.mk l15 0#64 [] k0 (drv p3 (un8 53#8) 0#64)) vw20 (.slice none 0 0)) (one_22).siz rfl rfl (Own.oneB Ow20) B54 rfl rfl) ⟨fun _ => tk0, nofun, trivial⟩ ?_
              rintro _ w21 ⟨Bw21, Mw21⟩
              have z55 := Mw21.size
              refine ⟨Kz.ofMd Mw21, ?_⟩
              refine sd_nil ?_
              refine block_n ?_
              refine then_n ?_
              -- region 13 ref.go:479
              refine sw_region [(0, 0), (1, 0), (2, 0)] rfl rfl rfl ?_
              refine sd_vv rfl rfl rfl (vv_move rfl) ?_
              refine sd_vv rfl rfl rfl (vv_add (k := .i64) (a := a9) (b := 1) rfl rfl) ?_
              refine sd_vv rfl rfl rfl (vv_assign rfl) ?_
              refine sd_nil ?_
              have K_56 : Kz [(1, b13)] w14 w21 := (Kz.md (Kz.ka (Kz.gr (Kz.gr (Kz.gr (Kz.gr Kw15 Gw16) Gw17) Gw18) Gw19) Aw20 (tk1 ((pv_0 (A := (fun x => w14.heap.size ≤ x)) Fw15_1) : zy11 = 0 ∨ w14.heap.size ≤ gy11))) Mw21)
              have B57 := (Own.md Ow20 Mw21 (tk1 ((pv_app (A := (fun x => x ≠ b13)) rw20 (pv_0 (A := (fun x => x ≠ b13)) Fw15_1)) : zw20 = 0 ∨ gw20 ≠ b13)))
              subst hrec2
              refine ⟨rfl, ⟨n2, w64 (a9 + 1), l15, vw20, zw20, gw20⟩, ?_, ⟨hm, B57, ⟨(pv_app (A := (fun x => w14.heap.size ≤ x)) rw20 (pv_0 (A := (fun x => w14.heap.size ≤ x)) Fw15_1))⟩, Bw21, K_56⟩, Nat.lt_succ_self _⟩
              repeat' first | exact trivial | refine ⟨rfl, ?_⟩
            ·
              replace hm := ite_f (of_decide_eq_false c5) hm
              refine sw_exit ?_
              refine then_x ?_
              refine then_x ?_
              refine block_x ?_
              refine then_n ?_
              refine sw_seq ?_
              -- region 15 ref.go:482
              refine sw_region [(0, 0), (1, 0), (2, 0)] rfl rfl rfl ?_
              refine sd_vv rfl rfl rfl (vv_loadW agg_28 rfl Fw15_2 rfl) ?_
              have B58 := (Bx.kz (Bx.md (Bx.gr (Bx.gr (Bx.kz (Bx.gr Bw4 Gw5) Kw8) Gw12) Gw13) Mw14) Kw15)
              refine sd_ev rfl rfl rfl (ev_stM (cs' := THeader.cs (THeader.mk a10 0#64 [] k0 (drv p3 (un8 53#8) 0#64)) vy11 (.slice none 0 0)) (vs := THeader.cs (THeader.mk a10 0#64 [] k0 (drv p3 (un8 53#8) 0#64)) vy11 (.slice none 0 0)) (agg_28).siz rfl rfl rfl rfl (THeader.cs_ones _ _ _ (Own.oneB Fw15_0) rfl) B58 rfl rfl) ?_
              rintro _ w22 ⟨Bw22, Mw22⟩
              have z59 := Mw22.size
              refine sd_vv rfl rfl rfl (vv_assign rfl) ?_
              refine sd_done ?_
              refine sw_ret ?_
              have B60 := (Own.md Fw15_0 Mw22 (tk1 ((pv_0 (A := (fun x => x ≠ b4)) Fw15_1) : zy11 = 0 ∨ gy11 ≠ b4)))
              have X61 : Gr w w22 := (Gr.md (Gr.kz X35 Kw15) Mw22)
              have hr := Option.some.inj hm
              subst hr
              refine ⟨_, _, rfl, res_2 rfl (rv_cellW agg_28 rfl Bw22 rfl) (rv_tmp rfl), ?_⟩
              exact ⟨vy11, zy11, gy11, (.slice none 0 0), 0, 0, rfl, B60, ⟨(pv_0 (A := (fun x => w.heap.size ≤ x)) Fw15_1)⟩, (own_nil _ 0 72 2), ⟨.inl rfl⟩, ⟨(.inl rfl)⟩, X61⟩

set_option maxHeartbeats 2000000 in
theorem cover_Open_1_w (p0 : TItem) (p1 : Tcover_tree) (bp1 : Nat) (r : Bool) (hm : cover_Open_1 p0 p1 = some r) (w : World) (hbp1 : Bx w bp1 134 (Tcover_tree.cs p1))  :
    Calls Try.prog 97 [.agg (TItem.cs p0).toArray, .pointer (some ⟨bp1, 0, none⟩)].toArray w fun e w' => ∃ v, e = .returned v ∧ (v = .bool r ∧ Gr w w') := by
  have lt1 := hbp1.lt
  unfold cover_Open_1 at hm
  refine calls_of_sw (R := fun v w' => v = .bool r ∧ Gr w w') 9 Try.func97 rfl rfl rfl ?_
  refine sw_seq ?_
  -- region 0 cover.go:305
  refine sw_region [(0, 0), (1, 0)] rfl rfl rfl ?_
  refine sd_ev rfl rfl rfl (ev_box (cs := TItem.cs p0) rfl rfl) ?_
  rintro _ w1 ⟨b1, rfl, hbw1, Bw1, Gw1⟩
  have z2 := Gw1.size
  have lt3 := Bw1.lt
  refine sd_vv rfl rfl rfl (vv_assign rfl) ?_
  refine sd_done ?_
  refine sw_seq ?_
  -- region 1 cover.go:305
  refine sw_region [(0, 0), (1, 0), (2, 0), (3, 0), (4, 0), (5, 0)] rfl rfl rfl ?_
  have B4 := (Bx.gr hbp1 Gw1)
  refine sd_vv rfl rfl rfl (vv_loadW agg_134 rfl B4 rfl) ?_
  refine sd_vv rfl rfl rfl (vv_fieldAddr fa_108_0 rfl) ?_
  refine sd_vv rfl rfl rfl (vv_loadM (vs := TSubset.cs p0.Subset) agg_47 rfl Bw1 rfl rfl) ?_
  have hb := bnd hm; clear hm; obtain ⟨x1, hx1, hm⟩ := hb
  refine sd_ev rfl rfl rfl (ev_call en_79 rfl (cover_tree_subset_w p1 p0.Subset _ hx1 _)) ?_
  rintro _ w2 ⟨rfl, Gw2⟩
  have z5 := Gw2.size
  refine sd_vv rfl rfl rfl (vv_not rfl) ?_
  refine sd_vv rfl rfl rfl (vv_assign rfl) ?_
  refine sd_done ?_
  refine sw_ret ?_
  have X6 : Gr w w2 := (Gr.trans (Gr.trans (Gr.refl w) Gw1) Gw2)
  have hr := Option.some.inj hm
  subst hr
  refine ⟨_, _, rfl, res_1 rfl (rv_tmp rfl), ?_⟩
  exact ⟨rfl, X6⟩

set_option maxHeartbeats 2000000 in
theorem slices_IndexFunc_c205_cover_Open_1_w (p0 : List TItem) (p1_0 : Tcover_tree) (vp0 : Value) (zp0 gp0 op0 : Nat) (bp1_0 : Nat) (r : Int) (hm : slices_IndexFunc_c205_cover_Open_1 p0 p1_0 = some r) (w : World) (hp0 : Rd w zp0 gp0 op0 18 vp0 (p0.map TItem.cs)) (hbp1_0 : Bx w bp1_0 134 (Tcover_tree.cs p1_0))  :
    Calls Try.prog 143 [vp0, .func (.func 97) [].toArray [.pointer (some ⟨bp1_0, 0, none⟩)].toArray].toArray w fun e w' => ∃ v, e = .returned v ∧ (v = .int .i64 r ∧ Gr w w') := by
  have lt1 := hp0.lth
  have lt2 := hbp1_0.lt
  unfold slices_IndexFunc_c205_cover_Open_1 at hm
  refine calls_of_sw (R := fun v w' => v = .int .i64 r ∧ Gr w w') 19 Try.func143 rfl rfl rfl ?_
  refine sw_seq ?_
  -- region 0 slices.go:107
  refine sw_region [(0, 0)] rfl rfl rfl ?_
  refine sd_vv rfl rfl rfl (vv_assign rfl) ?_
  refine sd_done ?_
  refine sw_seq ?_
  refine sw_seq ?_
  -- region 1 slices.go:108
  refine sw_region [(0, 0), (1, 0), (2, 0)] rfl rfl rfl ?_
  refine sd_vv rfl rfl rfl (vv_move rfl) ?_
  refine sd_vv rfl rfl rfl (vv_lenT (l := p0) (c := TItem.cs) Try.underlying22 rfl hp0) ?_
  refine sd_vv rfl rfl rfl (vv_move rfl) ?_
  refine sd_done ?_
  refine sw_block ?_
  refine sw_loopD (α := Nat × Int) [4, 5, 8, 9, 10, 11, 12, 13, 14, 15, 16, 17, 18] (fun ⟨n1, a2⟩ => [(4, .int .i64 0), (8, .int .i64 a2)]) (fun ⟨n1, a2⟩ wr => (fixN (slices_IndexFunc_c205_cover_Open_1_L1 p0 p1_0) n1 a2 = some r) ∧ Kz [] w wr) (fun ⟨n1, a2⟩ => n1) ⟨FUEL, 0⟩ ?_ ?_ ?_
  · repeat' first | exact trivial | refine ⟨rfl, ?_⟩
  · exact ⟨hm, Kz.refl _ _⟩
  · clear hm; rintro ⟨n1, a2⟩ w1 ⟨hm, Kw1⟩
    have z3 := Kw1.size
    have hb := fix_succ hm; clear hm; obtain ⟨n1, rfl, hm⟩ := hb
    generalize hrec1 : fixN (slices_IndexFunc_c205_cover_Open_1_L1 p0 p1_0) n1 = rec1 at hm
    unfold slices_IndexFunc_c205_cover_Open_1_L1 at hm
    try dsimp only at hm
    refine sw_seq ?_
    -- region 2 slices.go:108
    refine sw_region [(0, 0)] rfl rfl rfl ?_
    refine sd_vv rfl rfl rfl (vv_lss (a := a2) (b := (p0.length : Int)) rfl rfl) ?_
    refine sd_done ?_
    refine sw_seq ?_
    refine sw_cond rfl (fun c1 => ?_) (fun c1 => ?_)
    ·
      replace hm := ite_t (of_decide_eq_true c1) hm
      refine sw_skip ?_
      refine then_n ?_
      refine sw_seq ?_
      refine sw_block ?_
      refine sw_seq ?_
      -- region 3 slices.go:108
      refine sw_region [(0, 0), (1, 0)] rfl rfl rfl ?_
      refine sd_vv rfl rfl rfl (vv_move rfl) ?_
      refine sd_vv rfl rfl rfl (vv_assign rfl) ?_
      refine sd_done ?_
      refine sw_seq ?_
      -- region 4 slices.go:109
      refine sw_region [(0, 0), (1, 0), (2, 0), (3, 0), (4, 0), (5, 0)] rfl rfl rfl ?_
      refine sd_vv rfl rfl rfl (vv_move rfl) ?_
      refine sd_vv rfl rfl rfl (vv_move rfl) ?_
      refine sd_vv rfl rfl rfl (vv_move rfl) ?_
      have hb := bnd hm; clear hm; obtain ⟨y3, hy3, hm⟩ := hb
      have B4 := (Rd.kz hp0 Kw1)
      refine sd_vv rfl rfl rfl (vv_ixT (i := a2) Try.underlying22 (agg_108).siz rfl B4 rfl hy3) ?_
      refine sd_vv rfl rfl rfl (vv_elWT agg_108 rfl B4 hy3 (by first | rfl | omega)) ?_
      have B5 := (Bx.kz hbp1_0 Kw1)
      have hb := bnd hm; clear hm; obtain ⟨x4, hx4, hm⟩ := hb
      refine sd_ev rfl rfl rfl (ev_callV en_97 rfl rfl (cover_Open_1_w y3 p1_0 _ _ hx4 _ B5)) ?_
      rintro _ w2 ⟨rfl, Gw2⟩
      have z6 := Gw2.size
      refine sd_done ?_
      refine sw_cond rfl (fun c2 => ?_) (fun c2 => ?_)
      ·
        replace hm := cnd_t c2 hm
        refine sw_seq ?_
        -- region 5 slices.go:110
        refine sw_region [(0, 0), (1, 0)] rfl rfl rfl ?_
        refine sd_vv rfl rfl rfl (vv_move rfl) ?_
        refine sd_vv rfl rfl rfl (vv_assign rfl) ?_
        refine sd_done ?_
        refine sw_ret ?_
        refine block_r ?_
        refine then_r ?_
        refine then_r ?_
        refine block_r ?_
        refine then_r ?_
        have X7 : Gr w w2 := (Gr.trans (Gr.kz (Gr.refl w) Kw1) Gw2)
        have hr := Option.some.inj hm
        subst hr
        refine ⟨_, _, rfl, res_1 rfl (rv_tmp rfl), ?_⟩
        exact ⟨rfl, X7⟩
      ·
        replace hm := cnd_f c2 hm
        refine sw_skip ?_
        refine block_n ?_
        refine then_n ?_
        -- region 6 slices.go:108
        refine sw_region [(0, 0), (1, 0)] rfl rfl rfl ?_
        refine sd_vv rfl rfl rfl (vv_add (k := .i64) (a := a2) (b := 1) rfl rfl) ?_
        refine sd_vv rfl rfl rfl (vv_move rfl) ?_
        refine sd_nil ?_
        have K_8 : Kz [] w w2 := (Kz.gr Kw1 Gw2)
        subst hrec1
        refine ⟨rfl, ⟨n1, w64 (a2 + 1)⟩, ?_, ⟨hm, K_8⟩, Nat.lt_succ_self _⟩
        repeat' first | exact trivial | refine ⟨rfl, ?_⟩
    ·
      replace hm := ite_f (of_decide_eq_false c1) hm
      refine sw_exit ?_
      refine then_x ?_
      refine then_x ?_
      refine block_x ?_
      refine then_n ?_
      refine sw_seq ?_
      -- region 7 slices.go:113
      refine sw_region [(0, 0)] rfl rfl rfl ?_
      refine sd_vv rfl rfl rfl (vv_assign rfl) ?_
      refine sd_done ?_
      refine sw_ret ?_
      have X9 : Gr w w1 := (Gr.kz (Gr.refl w) Kw1)
      have hr := Option.some.inj hm
      subst hr
      refine ⟨_, _, rfl, res_1 rfl (rv_tmp rfl), ?_⟩
      exact ⟨rfl, X9⟩

set_option maxHeartbeats 2000000 in
theorem slices_ContainsFunc_9968_cover_Open_1_w (p0 : List TItem) (p1_0 : Tcover_tree) (vp0 : Value) (zp0 gp0 op0 : Nat) (bp1_0 : Nat) (r : Bool) (hm : slices_ContainsFunc_9968_cover_Open_1 p0 p1_0 = some r) (w : World) (hp0 : Rd w zp0 gp0 op0 18 vp0 (p0.map TItem.cs)) (hbp1_0 : Bx w bp1_0 134 (Tcover_tree.cs p1_0))  :
    Calls Try.prog 98 [vp0, .func (.func 97) [].toArray [.pointer (some ⟨bp1_0, 0, none⟩)].toArray].toArray w fun e w' => ∃ v, e = .returned v ∧ (v = .bool r ∧ Gr w w') := by
  have lt1 := hp0.lth
  have lt2 := hbp1_0.lt
  unfold slices_ContainsFunc_9968_cover_Open_1 at hm
  refine calls_of_sw (R := fun v w' => v = .bool r ∧ Gr w w') 9 Try.func98 rfl rfl rfl ?_
  refine sw_seq ?_
  -- region 0 slices.go:124
  refine sw_region [(0, 0)] rfl rfl rfl ?_
  refine sd_vv rfl rfl rfl (vv_assign rfl) ?_
  refine sd_done ?_
  refine sw_seq ?_
  -- region 1 slices.go:125
  refine sw_region [(0, 0), (1, 0), (2, 0), (3, 0), (4, 0)] rfl rfl rfl ?_
  refine sd_vv rfl rfl rfl (vv_move rfl) ?_
  refine sd_vv rfl rfl rfl (vv_move rfl) ?_
  have hb := bnd hm; clear hm; obtain ⟨x1, hx1, hm⟩ := hb
  refine sd_ev rfl rfl rfl (ev_call en_143 rfl (slices_IndexFunc_c205_cover_Open_1_w p0 p1_0 _ _ _ _ _ _ hx1 _ hp0 hbp1_0)) ?_
  rintro _ w1 ⟨rfl, Gw1⟩
  have z3 := Gw1.size
  refine sd_vv rfl rfl rfl (vv_geq (a := x1) (b := 0) rfl rfl) ?_
  refine sd_vv rfl rfl rfl (vv_assign rfl) ?_
  refine sd_done ?_
  refine sw_ret ?_
  have X4 : Gr w w1 := (Gr.trans (Gr.refl w) Gw1)
  have hr := Option.some.inj hm
  subst hr
  refine ⟨_, _, rfl, res_1 rfl (rv_tmp rfl), ?_⟩
  exact ⟨rfl, X4⟩

set_option maxHeartbeats 2000000 in
theorem cover_Open_w (p0 : TScheme) (p1 : TSecret) (p2 : THeader) (vp1_1 : Value) (zp1_1 gp1_1 op1_1 : Nat) (vp2_0 : Value) (zp2_0 gp2_0 op2_0 : Nat) (vp2_2 : Value) (zp2_2 gp2_2 op2_2 : Nat) (r : W2 × Int) (hm : cover_Open p0 p1 p2 = some r) (w : World) (hp1_1 : Rd w zp1_1 gp1_1 op1_1 18 vp1_1 (p1.Labels.map TLabel.cs)) (hp2_0 : Rd w zp2_0 gp2_0 op2_0 18 vp2_0 (p2.Items.map TItem.cs)) (hp2_2 : Rd w zp2_2 gp2_2 op2_2 2 vp2_2 (p2.Points.map TPoint.cs))  :
    Calls Try.prog 44 [.agg (TScheme.cs p0).toArray, .agg (TSecret.cs p1 vp1_1).toArray, .agg (THeader.cs p2 vp2_0 vp2_2).toArray].toArray w fun e w' => ∃ v, e = .returned v ∧ (v = .tuple [kv r.1, .int .i64 r.2].toArray ∧ Gr w w') := by
  have lt1 := hp1_1.lth
  have lt2 := hp2_0.lth
  have lt3 := hp2_2.lth
  unfold cover_Open at hm
  refine calls_of_sw (R := fun v w' => v = .tuple [kv r.1, .int .i64 r.2].toArray ∧ Gr w w') 82 Try.func44 rfl rfl rfl ?_
  refine sw_seq ?_
  -- region 0 cover.go:300
  refine sw_region [(0, 0), (1, 0), (2, 0), (3, 0), (4, 0)] rfl rfl rfl ?_
  refine sd_ev rfl rfl rfl (ev_box (cs := TScheme.cs p0) rfl rfl) ?_
  rintro _ w1 ⟨b1, rfl, hbw1, Bw1, Gw1⟩
  have z4 := Gw1.size
  have lt5 := Bw1.lt
  refine sd_ev rfl rfl rfl (ev_box (cs := TSecret.cs p1 vp1_1) rfl rfl) ?_
  rintro _ w2 ⟨b2, rfl, hbw2, Bw2, Gw2⟩
  have z6 := Gw2.size
  have lt7 := Bw2.lt
  refine sd_ev rfl rfl rfl (ev_box (cs := THeader.cs p2 vp2_0 vp2_2) rfl rfl) ?_
  rintro _ w3 ⟨b3, rfl, hbw3, Bw3, Gw3⟩
  have z8 := Gw3.size
  have lt9 := Bw3.lt
  refine sd_ev rfl rfl rfl (ev_alloc (cs := kb k0) zv_26 rfl) ?_
  rintro _ w4 ⟨b4, rfl, hbw4, Bw4, Gw4⟩
  have z10 := Gw4.size
  have lt11 := Bw4.lt
  refine sd_vv rfl rfl rfl (vv_assign rfl) ?_
  refine sd_done ?_
  refine sw_seq ?_
  -- region 1 cover.go:301
  refine sw_region [(0, 0), (1, 0), (2, 0), (3, 0), (4, 0), (5, 0), (6, 0), (7, 0)] rfl rfl rfl ?_
  have B12 := (Bx.gr (Bx.gr (Bx.gr Bw1 Gw2) Gw3) Gw4)
  refine sd_vv rfl rfl rfl (vv_loadW agg_45 rfl B12 rfl) ?_
  have hb := bnd hm; clear hm; obtain ⟨x1, hx1, hm⟩ := hb
  refine sd_ev rfl rfl rfl (ev_call en_74 rfl (cover_enter_w p0 ([] : List TSubset) _ _ _ _ _ hx1 _ (Own.rd (own_nil _ 0 47 2)))) ?_
  rintro _ w5 ⟨rfl, Gw5⟩
  have z13 := Gw5.size
  refine sd_vv rfl rfl rfl (vv_move rfl) ?_
  refine sd_vv rfl rfl rfl (vv_extract rfl rfl) ?_
  refine sd_vv rfl rfl rfl (vv_extract rfl rfl) ?_
  refine sd_ev rfl rfl rfl (ev_alloc (cs := Tcover_tree.cs (Tcover_tree.mk 0#8 0 0)) zv_134 rfl) ?_
  rintro _ w6 ⟨b6, rfl, hbw6, Bw6, Gw6⟩
  have z14 := Gw6.size
  have lt15 := Bw6.lt
  refine sd_ev rfl rfl rfl (ev_stM (cs' := Tcover_tree.cs x1.1) (vs := Tcover_tree.cs x1.1) (agg_134).siz rfl rfl rfl rfl rfl Bw6 rfl rfl) ?_
  rintro _ w7 ⟨Bw7, Mw7⟩
  have z16 := Mw7.size
  refine sd_vv rfl rfl rfl (vv_assign rfl) ?_
  refine sd_done ?_
  refine sw_seq ?_
  refine sw_seq ?_
  -- region 2 cover.go:302
  refine sw_region [(0, 0), (1, 0)] rfl rfl rfl ?_
  refine sd_vv rfl rfl rfl (vv_move rfl) ?_
  refine sd_vv rfl rfl rfl (vv_neq (a := x1.2) (b := 0) rfl rfl) ?_
  refine sd_done ?_
  refine sw_cond rfl (fun c1 => ?_) (fun c1 => ?_)
  ·
    replace hm := ite_t (of_decide_eq_true c1) hm
    refine sw_seq ?_
    -- region 3 cover.go:303
    refine sw_region [(0, 0), (1, 0), (2, 0), (3, 0)] rfl rfl rfl ?_
    refine sd_vv rfl rfl rfl (vv_buildZ bz_26) ?_
    refine sd_vv rfl rfl rfl (vv_move rfl) ?_
    have B17 := (Bx.md (Bx.gr (Bx.gr Bw4 Gw5) Gw6) Mw7)
    refine sd_ev rfl rfl rfl (ev_stM (cs' := kb k0) (vs := kb k0) (agg_26).siz rfl rfl rfl rfl rfl B17 rfl rfl) ?_
    rintro _ w8 ⟨Bw8, Mw8⟩
    have z18 := Mw8.size
    refine sd_vv rfl rfl rfl (vv_assign rfl) ?_
    refine sd_done ?_
    refine sw_ret ?_
    refine then_r ?_
    have X19 : Gr w w8 := (Gr.md (Gr.md (Gr.trans (Gr.trans (Gr.trans (Gr.trans (Gr.trans (Gr.trans (Gr.refl w) Gw1) Gw2) Gw3) Gw4) Gw5) Gw6) Mw7) Mw8)
    have hr := Option.some.inj hm
    subst hr
    refine ⟨_, _, rfl, res_2 rfl (rv_cellW agg_26 rfl Bw8 rfl) (rv_tmp rfl), ?_⟩
    exact ⟨rfl, X19⟩
  ·
    replace hm := ite_f (of_decide_eq_false c1) hm
    refine sw_skip ?_
    refine then_n ?_
    refine sw_seq ?_
    -- region 4 cover.go:305
    refine sw_region [(0, 0), (1, 0)] rfl rfl rfl ?_
    refine sd_vv rfl rfl rfl (vv_makeFunc rfl rfl) ?_
    refine sd_vv rfl rfl rfl (vv_assign rfl) ?_
    refine sd_done ?_
    refine sw_seq ?_
    have X20 : Gr w w7 := (Gr.md (Gr.trans (Gr.trans (Gr.trans (Gr.trans (Gr.trans (Gr.trans (Gr.refl w) Gw1) Gw2) Gw3) Gw4) Gw5) Gw6) Mw7)
    refine sw_joinD (β := Bool) [26, 27, 28, 29, 30, 31, 32, 33, 34, 35, 36, 37, 38, 39, 40, 41, 42, 43, 44, 45, 46, 47, 48, 49, 50, 51, 52] (fun a2 => [(52, .bool a2)]) (fun a2 wr => (cover_Open_J1 p1 p2 x1 a2 = some r) ∧ Kz [] w7 wr) ?_ ?_
    · clear hm; rintro a2 w9 ⟨hm, Kw9⟩
      have z21 := Kw9.size
      unfold cover_Open_J1 at hm
      refine sw_cond rfl (fun c2 => ?_) (fun c2 => ?_)
      ·
        replace hm := cnd_t c2 hm
        refine sw_seq ?_
        -- region 6 cover.go:307
        refine sw_region [(0, 0), (1, 0), (2, 0)] rfl rfl rfl ?_
        refine sd_vv rfl rfl rfl (vv_buildZ bz_26) ?_
        have B22 := (Bx.kz (Bx.md (Bx.gr (Bx.gr Bw4 Gw5) Gw6) Mw7) Kw9)
        refine sd_ev rfl rfl rfl (ev_stM (cs' := kb k0) (vs := kb k0) (agg_26).siz rfl rfl rfl rfl rfl B22 rfl rfl) ?_
        rintro _ w10 ⟨Bw10, Mw10⟩
        have z23 := Mw10.size
        refine sd_vv rfl rfl rfl (vv_assign rfl) ?_
        refine sd_done ?_
        refine sw_ret ?_
        refine then_r ?_
        have X24 : Gr w w10 := (Gr.md (Gr.kz X20 Kw9) Mw10)
        have hr := Option.some.inj hm
        subst hr
        refine ⟨_, _, rfl, res_2 rfl (rv_cellW agg_26 rfl Bw10 rfl) (rv_tmp rfl), ?_⟩
        exact ⟨rfl, X24⟩
      ·
        replace hm := cnd_f c2 hm
        refine sw_skip ?_
        refine then_n ?_
        refine sw_seq ?_
        refine sw_seq ?_
        -- region 7 cover.go:309
        refine sw_region [(0, 0), (1, 0), (2, 0), (3, 0)] rfl rfl rfl ?_
        refine sd_vv rfl rfl rfl (vv_fieldAddr fa_28_0 rfl) ?_
        have B25 := (Bx.kz (Bx.md (Bx.gr (Bx.gr (Bx.gr Bw3 Gw4) Gw5) Gw6) Mw7) Kw9)
        refine sd_vv rfl rfl rfl (vv_load1 (v := vp2_0) one_22 rfl B25 rfl) ?_
        have B26 := (Rd.kz (Rd.md (Rd.gr (Rd.gr (Rd.gr (Rd.gr (Rd.gr (Rd.gr hp2_0 Gw1) Gw2) Gw3) Gw4) Gw5) Gw6) Mw7 (tk1 ((pv_lt (A := (fun x => x ≠ b6)) lt2) : zp2_0 = 0 ∨ gp2_0 ≠ b6))) Kw9)
        refine sd_vv rfl rfl rfl (vv_lenT (l := p2.Items) (c := TItem.cs) Try.underlying22 rfl B26) ?_
        refine sd_vv rfl rfl rfl (vv_move rfl) ?_
        refine sd_done ?_
        refine sw_block ?_
        have X27 : Gr w w9 := (Gr.kz X20 Kw9)
        have B28 := (Rd.kz (Rd.md (Rd.gr (Rd.gr (Rd.gr (Rd.gr (Rd.gr (Rd.gr hp1_1 Gw1) Gw2) Gw3) Gw4) Gw5) Gw6) Mw7 (tk1 ((pv_lt (A := (fun x => x ≠ b6)) lt1) : zp1_1 = 0 ∨ gp1_1 ≠ b6))) Kw9)
        have B29 := (Rd.kz (Rd.md (Rd.gr (Rd.gr (Rd.gr (Rd.gr (Rd.gr (Rd.gr hp2_2 Gw1) Gw2) Gw3) Gw4) Gw5) Gw6) Mw7 (tk1 ((pv_lt (A := (fun x => x ≠ b6)) lt3) : zp2_2 = 0 ∨ gp2_2 ≠ b6))) Kw9)
        refine sw_loopD (α := Nat × Int) [7, 12, 13, 14, 15, 57, 58, 59, 60, 61, 62, 63, 64, 65, 66, 67, 68, 69, 70, 71, 72, 73, 74, 75, 76, 77, 78, 79, 80] (fun ⟨n2, a4⟩ => [(7, .int .i64 0), (57, .int .i64 a4)]) (fun ⟨n2, a4⟩ wr => (fixN (cover_Open_L2 p1 p2 x1) n2 a4 = some r) ∧ Kz [] w9 wr) (fun ⟨n2, a4⟩ => n2) ⟨FUEL, 0⟩ ?_ ?_ ?_
        · repeat' first | exact trivial | refine ⟨rfl, ?_⟩
        · exact ⟨hm, Kz.refl _ _⟩
        · clear hm; rintro ⟨n2, a4⟩ w11 ⟨hm, Kw11⟩
          have z30 := Kw11.size
          have hb := fix_succ hm; clear hm; obtain ⟨n2, rfl, hm⟩ := hb
          generalize hrec2 : fixN (cover_Open_L2 p1 p2 x1) n2 = rec2 at hm
          unfold cover_Open_L2 at hm
          try dsimp only at hm
          refine sw_seq ?_
          -- region 8 cover.go:309
          refine sw_region [(0, 0)] rfl rfl rfl ?_
          refine sd_vv rfl rfl rfl (vv_lss (a := a4) (b := (p2.Items.length : Int)) rfl rfl) ?_
          refine sd_done ?_
          refine sw_seq ?_
          refine sw_cond rfl (fun c3 => ?_) (fun c3 => ?_)
          ·
            replace hm := ite_t (of_decide_eq_true c3) hm
            refine sw_skip ?_
            refine then_n ?_
            refine sw_seq ?_
            refine sw_block ?_
            refine sw_seq ?_
            -- region 9 cover.go:309
            refine sw_region [(0, 0), (1, 0), (2, 0), (3, 0)] rfl rfl rfl ?_
            have hb := bnd hm; clear hm; obtain ⟨y5, hy5, hm⟩ := hb
            have B31 := (Rd.kz B26 Kw11)
            refine sd_vv rfl rfl rfl (vv_ixT (i := a4) Try.underlying22 (agg_108).siz rfl B31 rfl hy5) ?_
            refine sd_vv rfl rfl rfl (vv_elWT agg_108 rfl B31 hy5 (by first | rfl | omega)) ?_
            refine sd_ev rfl rfl rfl (ev_alloc (cs := TItem.cs (TItem.mk (TSubset.mk 0 0) k0)) zv_108 rfl) ?_
            rintro _ w12 ⟨b12, rfl, hbw12, Bw12, Gw12⟩
            have z32 := Gw12.size
            have lt33 := Bw12.lt
            refine sd_ev rfl rfl rfl (ev_stM (cs' := TItem.cs y5) (vs := TItem.cs y5) (agg_108).siz rfl rfl rfl rfl rfl Bw12 rfl rfl) ?_
            rintro _ w13 ⟨Bw13, Mw13⟩
            have z34 := Mw13.size
            refine sd_done ?_
            refine sw_seq ?_
            -- region 10 cover.go:310
            refine sw_region [(0, 0), (1, 0), (2, 0), (3, 0), (4, 0), (5, 0), (6, 0), (7, 0), (8, 0), (9, 0), (10, 0)] rfl rfl rfl ?_
            have B35 := (Bx.md (Bx.gr (Bx.kz (Bx.kz Bw7 Kw9) Kw11) Gw12) Mw13)
            refine sd_vv rfl rfl rfl (vv_loadW agg_134 rfl B35 rfl) ?_
            have B36 := (Bx.md (Bx.gr (Bx.kz (Bx.kz (Bx.md (Bx.gr (Bx.gr (Bx.gr (Bx.gr Bw2 Gw3) Gw4) Gw5) Gw6) Mw7) Kw9) Kw11) Gw12) Mw13)
            refine sd_vv rfl rfl rfl (vv_loadW agg_74 rfl B36 rfl) ?_
            refine sd_vv rfl rfl rfl (vv_fieldAddr fa_108_0 rfl) ?_
            refine sd_vv rfl rfl rfl (vv_loadM (vs := TSubset.cs y5.Subset) agg_47 rfl Bw13 rfl rfl) ?_
            have B37 := (Rd.md (Rd.gr (Rd.kz B28 Kw11) Gw12) Mw13 (tk1 ((pv_lt (A := (fun x => x ≠ b12)) lt1) : zp1_1 = 0 ∨ gp1_1 ≠ b12)))
            have hb := bnd hm; clear hm; obtain ⟨x6, hx6, hm⟩ := hb
            refine sd_ev rfl rfl rfl (ev_call en_99 rfl (cover_tree_find_w x1.1 p1 y5.Subset _ _ _ _ _ hx6 _ B37)) ?_
            rintro _ w14 ⟨rfl, Gw14⟩
            have z38 := Gw14.size
            refine sd_vv rfl rfl rfl (vv_move rfl) ?_
            refine sd_vv rfl rfl rfl (vv_extract rfl rfl) ?_
            refine sd_vv rfl rfl rfl (vv_extract rfl rfl) ?_
            refine sd_ev rfl rfl rfl (ev_alloc (cs := kb k0) zv_26 rfl) ?_
            rintro _ w15 ⟨b15, rfl, hbw15, Bw15, Gw15⟩
            have z39 := Gw15.size
            have lt40 := Bw15.lt
            refine sd_ev rfl rfl rfl (ev_stM (cs' := kb x6.1) (vs := kb x6.1) (agg_26).siz rfl rfl rfl rfl rfl Bw15 rfl rfl) ?_
            rintro _ w16 ⟨Bw16, Mw16⟩
            have z41 := Mw16.size
            refine sd_vv rfl rfl rfl (vv_assign rfl) ?_
            refine sd_done ?_
            refine sw_seq ?_
            -- region 11 cover.go:310
            refine sw_region [(0, 0)] rfl rfl rfl ?_
            refine sd_vv rfl rfl rfl (vv_move rfl) ?_
            refine sd_done ?_
            refine sw_cond rfl (fun c4 => ?_) (fun c4 => ?_)
            ·
              replace hm := cnd_t c4 hm
              refine sw_seq ?_
              -- region 12 cover.go:311
              refine sw_region [(0, 0), (1, 0), (2, 0), (3, 0), (4, 0), (5, 0)] rfl rfl rfl ?_
              refine sd_vv rfl rfl rfl (vv_loadW agg_26 rfl Bw16 rfl) ?_
              refine sd_vv rfl rfl rfl (vv_fieldAddr fa_108_1 rfl) ?_
              have B42 := (Bx.md (Bx.gr (Bx.gr Bw13 Gw14) Gw15) Mw16)
              refine sd_vv rfl rfl rfl (vv_loadM (vs := kb y5.Box) agg_26 rfl B42 rfl rfl) ?_
              refine sd_ev rfl rfl rfl (ev_call en_100 rfl (decr_c x6.1 y5.Box _)) ?_
              rintro _ w17 ⟨rfl, Gw17⟩
              have z43 := Gw17.size
              refine sd_ev rfl rfl rfl (ev_alloc (cs := kb k0) zv_26 rfl) ?_
              rintro _ w18 ⟨b18, rfl, hbw18, Bw18, Gw18⟩
              have z44 := Gw18.size
              have lt45 := Bw18.lt
              refine sd_ev rfl rfl rfl (ev_stM (cs' := kb (decr x6.1 y5.Box)) (vs := kb (decr x6.1 y5.Box)) (agg_26).siz rfl rfl rfl rfl rfl Bw18 rfl rfl) ?_
              rintro _ w19 ⟨Bw19, Mw19⟩
              have z46 := Mw19.size
              refine sd_done ?_
              refine sw_seq ?_
              -- region 13 cover.go:311 DRAWS
              refine sw_drawN [([])] [] (.leaf [(0, 10), (2, 10), (3, 10), (1, 0), (4, 10)]) (by kernel_rfl) (by kernel_rfl) rfl (by kernel_rfl) ?_
              intro w20 Gw20 zw20
              refine sdz_leaf ?_
              have B47 := (Bx.gr Bw19 Gw20)
              refine dd_hn 0 rfl rfl rfl rfl (Kp.refl ([]) w20) (fun w hS => vv_loadW agg_26 rfl (Bx.kp B47 hS) rfl) ?_
              refine dd_hn 0 rfl rfl rfl rfl (Kp.refl ([]) w20) (fun w hS => vv_fieldAddr fa_28_4 rfl) ?_
              have B48 := (Bx.gr (Bx.md (Bx.gr (Bx.gr (Bx.md (Bx.gr (Bx.gr (Bx.md (Bx.gr (Bx.kz B25 Kw11) Gw12) Mw13) Gw14) Gw15) Mw16) Gw17) Gw18) Mw19) Gw20)
              refine dd_hn 0 rfl rfl rfl rfl (Kp.refl ([]) w20) (fun w hS => vv_loadM (vs := kb p2.Check) agg_26 rfl (Bx.kp B48 hS) rfl rfl) ?_
              refine dd_z [] rfl rfl rfl (ev_call en_86 rfl (derive_c (decr x6.1 y5.Box) (un8 53#8) (un8_nn _) (un8_le _) 0#64 _)) ⟨fun _ => tk0, trivial⟩ ?_
              rintro _ w21 ⟨rfl, Gw21⟩
              have z49 := Gw21.size
              refine ⟨Kz.ofGr Gw21, ?_⟩
              have S50 := (Kp.gr (Kp.refl ([]) w20) Gw21)
              refine dd_hn 0 rfl rfl rfl rfl S50 (fun w hS => vv_eqlS (cf := kb) (a := drv (decr x6.1 y5.Box) (un8 53#8) 0#64) (b := p2.Check) eqt_26 rfl rfl rfl rfl (fun h => kb_inj h)) ?_
              refine sd_done ?_
              refine sw_cond rfl (fun c5 => ?_) (fun c5 => ?_)
              ·
                replace hm := ite_t (of_decide_eq_true c5) hm
                refine sw_seq ?_
                -- region 14 cover.go:312
                refine sw_region [(0, 0), (1, 0), (2, 0)] rfl rfl rfl ?_
                have B51 := (Bx.gr B47 Gw21)
                refine sd_vv rfl rfl rfl (vv_loadW agg_26 rfl B51 rfl) ?_
                have B52 := (Bx.gr (Bx.gr (Bx.md (Bx.gr (Bx.gr (Bx.md (Bx.gr (Bx.gr (Bx.md (Bx.gr (Bx.kz (Bx.kz (Bx.md (Bx.gr (Bx.gr Bw4 Gw5) Gw6) Mw7) Kw9) Kw11) Gw12) Mw13) Gw14) Gw15) Mw16) Gw17) Gw18) Mw19) Gw20) Gw21)
                refine sd_ev rfl rfl rfl (ev_stM (cs' := kb (decr x6.1 y5.Box)) (vs := kb (decr x6.1 y5.Box)) (agg_26).siz rfl rfl rfl rfl rfl B52 rfl rfl) ?_
                rintro _ w22 ⟨Bw22, Mw22⟩
                have z53 := Mw22.size
                refine sd_vv rfl rfl rfl (vv_assign rfl) ?_
                refine sd_done ?_
                refine sw_ret ?_
                refine block_r ?_
                refine then_r ?_
                refine then_r ?_
                refine block_r ?_
                refine then_r ?_
                have X54 : Gr w w22 := (Gr.md (Gr.trans (Gr.trans (Gr.md (Gr.trans (Gr.trans (Gr.md (Gr.trans (Gr.trans (Gr.md (Gr.trans (Gr.kz X27 Kw11) Gw12) Mw13) Gw14) Gw15) Mw16) Gw17) Gw18) Mw19) Gw20) Gw21) Mw22)
                have hr := Option.some.inj hm
                subst hr
                refine ⟨_, _, rfl, res_2 rfl (rv_cellW agg_26 rfl Bw22 rfl) (rv_tmp rfl), ?_⟩
                exact ⟨rfl, X54⟩
              ·
                replace hm := ite_f (of_decide_eq_false c5) hm
                refine sw_skip ?_
                refine block_n ?_
                refine then_n ?_
                -- region 15 cover.go:309
                refine sw_region [(0, 0), (1, 0)] rfl rfl rfl ?_
                refine sd_vv rfl rfl rfl (vv_add (k := .i64) (a := a4) (b := 1) rfl rfl) ?_
                refine sd_vv rfl rfl rfl (vv_move rfl) ?_
                refine sd_nil ?_
                have K_55 : Kz [] w9 w21 := (Kz.gr (Kz.gr (Kz.md (Kz.gr (Kz.gr (Kz.md (Kz.gr (Kz.gr (Kz.md (Kz.gr Kw11 Gw12) Mw13) Gw14) Gw15) Mw16) Gw17) Gw18) Mw19) Gw20) Gw21)
                subst hrec2
                refine ⟨rfl, ⟨n2, w64 (a4 + 1)⟩, ?_, ⟨hm, K_55⟩, Nat.lt_succ_self _⟩
                repeat' first | exact trivial | refine ⟨rfl, ?_⟩
            ·
              replace hm := cnd_f c4 hm
              refine sw_skip ?_
              refine block_n ?_
              refine then_n ?_
              -- region 15 cover.go:309
              refine sw_region [(0, 0), (1, 0)] rfl rfl rfl ?_
              refine sd_vv rfl rfl rfl (vv_add (k := .i64) (a := a4) (b := 1) rfl rfl) ?_
              refine sd_vv rfl rfl rfl (vv_move rfl) ?_
              refine sd_nil ?_
              have K_56 : Kz [] w9 w16 := (Kz.md (Kz.gr (Kz.gr (Kz.md (Kz.gr Kw11 Gw12) Mw13) Gw14) Gw15) Mw16)
              subst hrec2
              refine ⟨rfl, ⟨n2, w64 (a4 + 1)⟩, ?_, ⟨hm, K_56⟩, Nat.lt_succ_self _⟩
              repeat' first | exact trivial | refine ⟨rfl, ?_⟩
          ·
            replace hm := ite_f (of_decide_eq_false c3) hm
            refine sw_exit ?_
            refine then_x ?_
            refine then_x ?_
            refine block_x ?_
            refine then_n ?_
            refine sw_seq ?_
            -- region 16 cover.go:316
            refine sw_region [(0, 0), (1, 0), (2, 0)] rfl rfl rfl ?_
            refine sd_vv rfl rfl rfl (vv_buildZ bz_26) ?_
            have B57 := (Bx.kz (Bx.kz (Bx.md (Bx.gr (Bx.gr Bw4 Gw5) Gw6) Mw7) Kw9) Kw11)
            refine sd_ev rfl rfl rfl (ev_stM (cs' := kb k0) (vs := kb k0) (agg_26).siz rfl rfl rfl rfl rfl B57 rfl rfl) ?_
            rintro _ w23 ⟨Bw23, Mw23⟩
            have z58 := Mw23.size
            refine sd_vv rfl rfl rfl (vv_assign rfl) ?_
            refine sd_done ?_
            refine sw_ret ?_
            have X59 : Gr w w23 := (Gr.md (Gr.kz X27 Kw11) Mw23)
            have hr := Option.some.inj hm
            subst hr
            refine ⟨_, _, rfl, res_2 rfl (rv_cellW agg_26 rfl Bw23 rfl) (rv_tmp rfl), ?_⟩
            exact ⟨rfl, X59⟩
    ·
      -- region 5 cover.go:306
      refine sw_region [(0, 0), (1, 0), (2, 0), (3, 0), (4, 0), (5, 0), (6, 0), (7, 0), (8, 0), (9, 0), (10, 0), (11, 0), (12, 0), (13, 0), (14, 0), (15, 0), (16, 0), (17, 0), (18, 0), (19, 0), (20, 0), (21, 0), (22, 0), (23, 0), (24, 0), (25, 0), (26, 0)] rfl rfl rfl ?_
      refine sd_vv rfl rfl rfl (vv_fieldAddr fa_28_0 rfl) ?_
      have B60 := (Bx.md (Bx.gr (Bx.gr (Bx.gr Bw3 Gw4) Gw5) Gw6) Mw7)
      refine sd_vv rfl rfl rfl (vv_load1 (v := vp2_0) one_22 rfl B60 rfl) ?_
      have B61 := (Rd.md (Rd.gr (Rd.gr (Rd.gr (Rd.gr (Rd.gr (Rd.gr hp2_0 Gw1) Gw2) Gw3) Gw4) Gw5) Gw6) Mw7 (tk1 ((pv_lt (A := (fun x => x ≠ b6)) lt2) : zp2_0 = 0 ∨ gp2_0 ≠ b6)))
      refine sd_vv rfl rfl rfl (vv_lenT (l := p2.Items) (c := TItem.cs) Try.underlying22 rfl B61) ?_
      refine sd_vv rfl rfl rfl (vv_gtr (a := (p2.Items.length : Int)) (b := 64) rfl rfl) ?_
      refine sd_split rfl rfl rfl (vv_move rfl) (fun c6 => ?_) (fun c6 => ?_)
      ·
        replace hm := ite_t (of_decide_eq_true c6) hm
        refine sd_skip rfl rfl rfl ?_
        refine sd_skip rfl rfl rfl ?_
        refine sd_skip rfl rfl rfl ?_
        refine sd_vv rfl rfl rfl (vv_pickT rfl rfl) ?_
        refine sd_vv rfl rfl rfl (vv_move rfl) ?_
        refine sd_skip rfl rfl rfl ?_
        refine sd_skip rfl rfl rfl ?_
        refine sd_skip rfl rfl rfl ?_
        refine sd_skip rfl rfl rfl ?_
        refine sd_vv rfl rfl rfl (vv_pickT rfl rfl) ?_
        refine sd_vv rfl rfl rfl (vv_move rfl) ?_
        refine sd_skip rfl rfl rfl ?_
        refine sd_skip rfl rfl rfl ?_
        refine sd_skip rfl rfl rfl ?_
        refine sd_skip rfl rfl rfl ?_
        refine sd_vv rfl rfl rfl (vv_pickT rfl rfl) ?_
        refine sd_vv rfl rfl rfl (vv_move rfl) ?_
        refine sd_skip rfl rfl rfl ?_
        refine sd_skip rfl rfl rfl ?_
        refine sd_skip rfl rfl rfl ?_
        refine sd_skip rfl rfl rfl ?_
        refine sd_vv rfl rfl rfl (vv_pickT rfl rfl) ?_
        refine sd_nil ?_
        have K_62 : Kz [] w7 w7 := (Kz.refl _ _)
        refine ⟨rfl, true, ?_, hm, K_62⟩
        repeat' first | exact trivial | refine ⟨rfl, ?_⟩
      ·
        replace hm := ite_f (of_decide_eq_false c6) hm
        refine sd_vv rfl rfl rfl (vv_fieldAddr fa_28_1 rfl) ?_
        refine sd_vv rfl rfl rfl (vv_load1 (v := wv p2.Base) one_23 rfl B60 rfl) ?_
        refine sd_vv rfl rfl rfl (vv_neqU (c := p2.Base) (d := 0#64) rfl rfl) ?_
        refine sd_vv rfl rfl rfl (vv_pickF rfl rfl) ?_
        refine sd_split rfl rfl rfl (vv_move rfl) (fun c7 => ?_) (fun c7 => ?_)
        ·
          replace hm := ite_t (of_decide_eq_true c7) hm
          refine sd_skip rfl rfl rfl ?_
          refine sd_skip rfl rfl rfl ?_
          refine sd_skip rfl rfl rfl ?_
          refine sd_skip rfl rfl rfl ?_
          refine sd_vv rfl rfl rfl (vv_pickT rfl rfl) ?_
          refine sd_vv rfl rfl rfl (vv_move rfl) ?_
          refine sd_skip rfl rfl rfl ?_
          refine sd_skip rfl rfl rfl ?_
          refine sd_skip rfl rfl rfl ?_
          refine sd_skip rfl rfl rfl ?_
          refine sd_vv rfl rfl rfl (vv_pickT rfl rfl) ?_
          refine sd_vv rfl rfl rfl (vv_move rfl) ?_
          refine sd_skip rfl rfl rfl ?_
          refine sd_skip rfl rfl rfl ?_
          refine sd_skip rfl rfl rfl ?_
          refine sd_skip rfl rfl rfl ?_
          refine sd_vv rfl rfl rfl (vv_pickT rfl rfl) ?_
          refine sd_nil ?_
          have K_63 : Kz [] w7 w7 := (Kz.refl _ _)
          refine ⟨rfl, true, ?_, hm, K_63⟩
          repeat' first | exact trivial | refine ⟨rfl, ?_⟩
        ·
          replace hm := ite_f (of_decide_eq_false c7) hm
          refine sd_vv rfl rfl rfl (vv_fieldAddr fa_28_2 rfl) ?_
          refine sd_vv rfl rfl rfl (vv_load1 (v := vp2_2) one_24 rfl B60 rfl) ?_
          have B64 := (Rd.md (Rd.gr (Rd.gr (Rd.gr (Rd.gr (Rd.gr (Rd.gr hp2_2 Gw1) Gw2) Gw3) Gw4) Gw5) Gw6) Mw7 (tk1 ((pv_lt (A := (fun x => x ≠ b6)) lt3) : zp2_2 = 0 ∨ gp2_2 ≠ b6)))
          refine sd_vv rfl rfl rfl (vv_lenT (l := p2.Points) (c := TPoint.cs) Try.underlying24 rfl B64) ?_
          refine sd_vv rfl rfl rfl (vv_gtr (a := (p2.Points.length : Int)) (b := 0) rfl rfl) ?_
          refine sd_vv rfl rfl rfl (vv_pickF rfl rfl) ?_
          refine sd_split rfl rfl rfl (vv_move rfl) (fun c8 => ?_) (fun c8 => ?_)
          ·
            replace hm := ite_t (of_decide_eq_true c8) hm
            refine sd_skip rfl rfl rfl ?_
            refine sd_skip rfl rfl rfl ?_
            refine sd_skip rfl rfl rfl ?_
            refine sd_skip rfl rfl rfl ?_
            refine sd_vv rfl rfl rfl (vv_pickT rfl rfl) ?_
            refine sd_vv rfl rfl rfl (vv_move rfl) ?_
            refine sd_skip rfl rfl rfl ?_
            refine sd_skip rfl rfl rfl ?_
            refine sd_skip rfl rfl rfl ?_
            refine sd_skip rfl rfl rfl ?_
            refine sd_vv rfl rfl rfl (vv_pickT rfl rfl) ?_
            refine sd_nil ?_
            have K_65 : Kz [] w7 w7 := (Kz.refl _ _)
            refine ⟨rfl, true, ?_, hm, K_65⟩
            repeat' first | exact trivial | refine ⟨rfl, ?_⟩
          ·
            replace hm := ite_f (of_decide_eq_false c8) hm
            refine sd_vv rfl rfl rfl (vv_fieldAddr fa_28_3 rfl) ?_
            refine sd_vv rfl rfl rfl (vv_loadM (vs := kb p2.Box) agg_26 rfl B60 rfl rfl) ?_
            refine sd_vv rfl rfl rfl (vv_buildZ bz_26) ?_
            refine sd_vv rfl rfl rfl (vv_neqS (cf := kb) (a := p2.Box) (b := k0) eqt_26 rfl rfl rfl rfl (fun h => kb_inj h)) ?_
            refine sd_vv rfl rfl rfl (vv_pickF rfl rfl) ?_
            refine sd_split rfl rfl rfl (vv_move rfl) (fun c9 => ?_) (fun c9 => ?_)
            ·
              replace hm := ite_t (of_decide_eq_true c9) hm
              refine sd_skip rfl rfl rfl ?_
              refine sd_skip rfl rfl rfl ?_
              refine sd_skip rfl rfl rfl ?_
              refine sd_skip rfl rfl rfl ?_
              refine sd_vv rfl rfl rfl (vv_pickT rfl rfl) ?_
              refine sd_nil ?_
              have K_66 : Kz [] w7 w7 := (Kz.refl _ _)
              refine ⟨rfl, true, ?_, hm, K_66⟩
              repeat' first | exact trivial | refine ⟨rfl, ?_⟩
            ·
              replace hm := ite_f (of_decide_eq_false c9) hm
              refine sd_vv rfl rfl rfl (vv_fieldAddr fa_28_0 rfl) ?_
              refine sd_vv rfl rfl rfl (vv_load1 (v := vp2_0) one_22 rfl B60 rfl) ?_
              refine sd_vv rfl rfl rfl (vv_move rfl) ?_
              have hb := bnd hm; clear hm; obtain ⟨x7, hx7, hm⟩ := hb
              refine sd_ev rfl rfl rfl (ev_call en_98 rfl (slices_ContainsFunc_9968_cover_Open_1_w p2.Items x1.1 _ _ _ _ _ _ hx7 _ B61 Bw7)) ?_
              rintro _ w24 ⟨rfl, Gw24⟩
              have z67 := Gw24.size
              refine sd_vv rfl rfl rfl (vv_pickF rfl rfl) ?_
              refine sd_nil ?_
              have K_68 : Kz [] w7 w24 := (Kz.gr (Kz.refl _ _) Gw24)
              refine ⟨rfl, x7, ?_, hm, K_68⟩
              repeat' first | exact trivial | refine ⟨rfl, ?_⟩

set_option maxHeartbeats 2000000 in
theorem ref03_ValidHeader_w (p0 : TScheme) (p1 : THeader) (vp1_0 : Value) (zp1_0 gp1_0 op1_0 : Nat) (vp1_2 : Value) (zp1_2 gp1_2 op1_2 : Nat) (r : Bool) (hm : ref03_ValidHeader p0 p1 = some r) (w : World) (hp1_0 : Rd w zp1_0 gp1_0 op1_0 18 vp1_0 (p1.Items.map TItem.cs)) (hp1_2 : Rd w zp1_2 gp1_2 op1_2 2 vp1_2 (p1.Points.map TPoint.cs))  :
    Calls Try.prog 101 [.agg (TScheme.cs p0).toArray, .agg (THeader.cs p1 vp1_0 vp1_2).toArray].toArray w fun e w' => ∃ v, e = .returned v ∧ (v = .bool r ∧ Gr w w') := by
  have lt1 := hp1_0.lth
  have lt2 := hp1_2.lth
  unfold ref03_ValidHeader at hm
  refine calls_of_sw (R := fun v w' => v = .bool r ∧ Gr w w') 43 Try.func101 rfl rfl rfl ?_
  refine sw_seq ?_
  -- region 0 ref.go:486
  refine sw_region [(0, 0), (1, 0), (2, 0)] rfl rfl rfl ?_
  refine sd_ev rfl rfl rfl (ev_box (cs := TScheme.cs p0) rfl rfl) ?_
  rintro _ w1 ⟨b1, rfl, hbw1, Bw1, Gw1⟩
  have z3 := Gw1.size
  have lt4 := Bw1.lt
  refine sd_ev rfl rfl rfl (ev_box (cs := THeader.cs p1 vp1_0 vp1_2) rfl rfl) ?_
  rintro _ w2 ⟨b2, rfl, hbw2, Bw2, Gw2⟩
  have z5 := Gw2.size
  have lt6 := Bw2.lt
  refine sd_vv rfl rfl rfl (vv_assign rfl) ?_
  refine sd_done ?_
  refine sw_seq ?_
  have X7 : Gr w w2 := (Gr.trans (Gr.trans (Gr.refl w) Gw1) Gw2)
  refine sw_joinD (β := Bool) [6, 7, 8, 9, 10, 11, 12, 13, 14, 15, 16, 17, 18, 19, 20, 21, 22, 23, 24, 25, 26] (fun a1 => [(26, .bool a1)]) (fun a1 wr => (ref03_ValidHeader_J1 p0 p1 a1 = some r) ∧ Kz [] w2 wr) ?_ ?_
  · clear hm; rintro a1 w3 ⟨hm, Kw3⟩
    have z8 := Kw3.size
    unfold ref03_ValidHeader_J1 at hm
    refine sw_cond rfl (fun c1 => ?_) (fun c1 => ?_)
    ·
      replace hm := cnd_t c1 hm
      refine sw_seq ?_
      -- region 2 ref.go:488
      refine sw_region [(0, 0)] rfl rfl rfl ?_
      refine sd_vv rfl rfl rfl (vv_assign rfl) ?_
      refine sd_done ?_
      refine sw_ret ?_
      refine then_r ?_
      have X9 : Gr w w3 := (Gr.kz X7 Kw3)
      have hr := Option.some.inj hm
      subst hr
      refine ⟨_, _, rfl, res_1 rfl (rv_tmp rfl), ?_⟩
      exact ⟨rfl, X9⟩
    ·
      replace hm := cnd_f c1 hm
      refine sw_skip ?_
      refine then_n ?_
      refine sw_seq ?_
      refine sw_seq ?_
      -- region 3 ref.go:490
      refine sw_region [(0, 0)] rfl rfl rfl ?_
      refine sd_vv rfl rfl rfl (vv_assign rfl) ?_
      refine sd_done ?_
      refine sw_block ?_
      have X10 : Gr w w3 := (Gr.kz X7 Kw3)
      have B11 := (Rd.kz (Rd.gr (Rd.gr hp1_0 Gw1) Gw2) Kw3)
      have B12 := (Rd.kz (Rd.gr (Rd.gr hp1_2 Gw1) Gw2) Kw3)
      refine sw_loopD (α := Nat × Int) [4, 5, 27, 28, 29, 30, 31, 32, 33, 34, 35, 36, 37, 38, 39, 40, 41, 42] (fun ⟨n2, a3⟩ => [(4, .bool false), (5, .int .i64 a3)]) (fun ⟨n2, a3⟩ wr => (fixN (ref03_ValidHeader_L2 p0 p1) n2 a3 = some r) ∧ Kz [] w3 wr) (fun ⟨n2, a3⟩ => n2) ⟨FUEL, 0⟩ ?_ ?_ ?_
      · repeat' first | exact trivial | refine ⟨rfl, ?_⟩
      · exact ⟨hm, Kz.refl _ _⟩
      · clear hm; rintro ⟨n2, a3⟩ w4 ⟨hm, Kw4⟩
        have z13 := Kw4.size
        have hb := fix_succ hm; clear hm; obtain ⟨n2, rfl, hm⟩ := hb
        generalize hrec2 : fixN (ref03_ValidHeader_L2 p0 p1) n2 = rec2 at hm
        unfold ref03_ValidHeader_L2 at hm
        try dsimp only at hm
        refine sw_seq ?_
        refine sw_seq ?_
        -- region 4 ref.go:490
        refine sw_region [(0, 0), (1, 0), (2, 0), (3, 0), (4, 0)] rfl rfl rfl ?_
        refine sd_vv rfl rfl rfl (vv_move rfl) ?_
        refine sd_vv rfl rfl rfl (vv_fieldAddr fa_28_0 rfl) ?_
        have B14 := (Bx.kz (Bx.kz Bw2 Kw3) Kw4)
        refine sd_vv rfl rfl rfl (vv_load1 (v := vp1_0) one_22 rfl B14 rfl) ?_
        have B15 := (Rd.kz B11 Kw4)
        refine sd_vv rfl rfl rfl (vv_lenT (l := p1.Items) (c := TItem.cs) Try.underlying22 rfl B15) ?_
        refine sd_vv rfl rfl rfl (vv_lss (a := a3) (b := (p1.Items.length : Int)) rfl rfl) ?_
        refine sd_done ?_
        refine sw_cond rfl (fun c2 => ?_) (fun c2 => ?_)
        ·
          replace hm := ite_t (of_decide_eq_true c2) hm
          refine sw_skip ?_
          refine then_n ?_
          refine sw_seq ?_
          refine sw_block ?_
          refine sw_seq ?_
          -- region 6 ref.go:491 DRAWS
          refine sw_drawN [([])] [] (.leaf [(0, 10), (1, 10), (2, 10), (3, 10), (4, 10), (5, 10), (6, 10), (7, 0), (8, 10)]) (by kernel_rfl) (by kernel_rfl) rfl (by kernel_rfl) ?_
          intro w5 Gw5 zw5
          refine sdz_leaf ?_
          have B16 := (Bx.gr (Bx.kz (Bx.kz (Bx.gr Bw1 Gw2) Kw3) Kw4) Gw5)
          refine dd_hn 0 rfl rfl rfl rfl (Kp.refl ([]) w5) (fun w hS => vv_loadW agg_45 rfl (Bx.kp B16 hS) rfl) ?_
          refine dd_hn 0 rfl rfl rfl rfl (Kp.refl ([]) w5) (fun w hS => vv_fieldAddr fa_28_0 rfl) ?_
          have B17 := (Bx.gr B14 Gw5)
          refine dd_hn 0 rfl rfl rfl rfl (Kp.refl ([]) w5) (fun w hS => vv_load1 (v := vp1_0) one_22 rfl (Bx.kp B17 hS) rfl) ?_
          refine dd_hn 0 rfl rfl rfl rfl (Kp.refl ([]) w5) (fun w hS => vv_move rfl) ?_
          have hb := bnd hm; clear hm; obtain ⟨y4, hy4, hm⟩ := hb
          have B18 := (Rd.gr B15 Gw5)
          refine dd_hn 0 rfl rfl rfl rfl (Kp.refl ([]) w5) (fun w hS => vv_ixT (i := a3) Try.underlying22 (agg_108).siz rfl (Rd.kp B18 hS) rfl hy4) ?_
          refine dd_hn 0 rfl rfl rfl rfl (Kp.refl ([]) w5) (fun w hS => vv_fieldAddr fa_108_0 rfl) ?_
          refine dd_hn 0 rfl rfl rfl rfl (Kp.refl ([]) w5) (fun w hS => vv_elMT (q := 0) (vs := TSubset.cs y4.Subset) agg_47 rfl (Rd.kp B18 hS) hy4 (by first | rfl | omega) rfl rfl) ?_
          have hb := bnd hm; clear hm; obtain ⟨x5, hx5, hm⟩ := hb
          refine dd_z [] rfl rfl rfl (ev_call en_62 rfl (ref03_IsSubset_w p0 y4.Subset _ hx5 _)) ⟨fun _ => tk0, trivial⟩ ?_
          rintro _ w6 ⟨rfl, Gw6⟩
          have z19 := Gw6.size
          refine ⟨Kz.ofGr Gw6, ?_⟩
          have S20 := (Kp.gr (Kp.refl ([]) w5) Gw6)
          refine dd_hn 0 rfl rfl rfl rfl S20 (fun w hS => vv_not rfl) ?_
          refine sd_done ?_
          refine sw_cond rfl (fun c3 => ?_) (fun c3 => ?_)
          ·
            replace hm := cnd_t c3 hm
            refine sw_seq ?_
            -- region 7 ref.go:492
            refine sw_region [(0, 0)] rfl rfl rfl ?_
            refine sd_vv rfl rfl rfl (vv_assign rfl) ?_
            refine sd_done ?_
            refine sw_ret ?_
            refine block_r ?_
            refine then_r ?_
            refine then_r ?_
            refine block_r ?_
            refine then_r ?_
            have X21 : Gr w w6 := (Gr.trans (Gr.trans (Gr.kz X10 Kw4) Gw5) Gw6)
            have hr := Option.some.inj hm
            subst hr
            refine ⟨_, _, rfl, res_1 rfl (rv_tmp rfl), ?_⟩
            exact ⟨rfl, X21⟩
          ·
            replace hm := cnd_f c3 hm
            refine sw_skip ?_
            refine block_n ?_
            refine then_n ?_
            -- region 5 ref.go:490
            refine sw_region [(0, 0), (1, 0), (2, 0)] rfl rfl rfl ?_
            refine sd_vv rfl rfl rfl (vv_move rfl) ?_
            refine sd_vv rfl rfl rfl (vv_add (k := .i64) (a := a3) (b := 1) rfl rfl) ?_
            refine sd_vv rfl rfl rfl (vv_assign rfl) ?_
            refine sd_nil ?_
            have K_22 : Kz [] w3 w6 := (Kz.gr (Kz.gr Kw4 Gw5) Gw6)
            subst hrec2
            refine ⟨rfl, ⟨n2, w64 (a3 + 1)⟩, ?_, ⟨hm, K_22⟩, Nat.lt_succ_self _⟩
            repeat' first | exact trivial | refine ⟨rfl, ?_⟩
        ·
          replace hm := ite_f (of_decide_eq_false c2) hm
          refine sw_exit ?_
          refine then_x ?_
          refine then_x ?_
          refine block_x ?_
          refine then_n ?_
          refine sw_seq ?_
          -- region 8 ref.go:495
          refine sw_region [(0, 0)] rfl rfl rfl ?_
          refine sd_vv rfl rfl rfl (vv_assign rfl) ?_
          refine sd_done ?_
          refine sw_ret ?_
          have X23 : Gr w w4 := (Gr.kz X10 Kw4)
          have hr := Option.some.inj hm
          subst hr
          refine ⟨_, _, rfl, res_1 rfl (rv_tmp rfl), ?_⟩
          exact ⟨rfl, X23⟩
  ·
    -- region 1 ref.go:487
    refine sw_region [(0, 0), (1, 0), (2, 0), (3, 0), (4, 0), (5, 0), (6, 0), (7, 0), (8, 0), (9, 0), (10, 0), (11, 0), (12, 0), (13, 0), (14, 0), (15, 0), (16, 0), (17, 0), (18, 0), (19, 0), (20, 0)] rfl rfl rfl ?_
    refine sd_vv rfl rfl rfl (vv_fieldAddr fa_28_0 rfl) ?_
    refine sd_vv rfl rfl rfl (vv_load1 (v := vp1_0) one_22 rfl Bw2 rfl) ?_
    have B24 := (Rd.gr (Rd.gr hp1_0 Gw1) Gw2)
    refine sd_vv rfl rfl rfl (vv_lenT (l := p1.Items) (c := TItem.cs) Try.underlying22 rfl B24) ?_
    refine sd_vv rfl rfl rfl (vv_gtr (a := (p1.Items.length : Int)) (b := 64) rfl rfl) ?_
    refine sd_split rfl rfl rfl (vv_move rfl) (fun c4 => ?_) (fun c4 => ?_)
    ·
      replace hm := ite_t (of_decide_eq_true c4) hm
      refine sd_skip rfl rfl rfl ?_
      refine sd_skip rfl rfl rfl ?_
      refine sd_skip rfl rfl rfl ?_
      refine sd_vv rfl rfl rfl (vv_pickT rfl rfl) ?_
      refine sd_vv rfl rfl rfl (vv_move rfl) ?_
      refine sd_skip rfl rfl rfl ?_
      refine sd_skip rfl rfl rfl ?_
      refine sd_skip rfl rfl rfl ?_
      refine sd_skip rfl rfl rfl ?_
      refine sd_vv rfl rfl rfl (vv_pickT rfl rfl) ?_
      refine sd_vv rfl rfl rfl (vv_move rfl) ?_
      refine sd_skip rfl rfl rfl ?_
      refine sd_skip rfl rfl rfl ?_
      refine sd_skip rfl rfl rfl ?_
      refine sd_skip rfl rfl rfl ?_
      refine sd_vv rfl rfl rfl (vv_pickT rfl rfl) ?_
      refine sd_nil ?_
      have K_25 : Kz [] w2 w2 := (Kz.refl _ _)
      refine ⟨rfl, true, ?_, hm, K_25⟩
      repeat' first | exact trivial | refine ⟨rfl, ?_⟩
    ·
      replace hm := ite_f (of_decide_eq_false c4) hm
      refine sd_vv rfl rfl rfl (vv_fieldAddr fa_28_1 rfl) ?_
      refine sd_vv rfl rfl rfl (vv_load1 (v := wv p1.Base) one_23 rfl Bw2 rfl) ?_
      refine sd_vv rfl rfl rfl (vv_neqU (c := p1.Base) (d := 0#64) rfl rfl) ?_
      refine sd_vv rfl rfl rfl (vv_pickF rfl rfl) ?_
      refine sd_split rfl rfl rfl (vv_move rfl) (fun c5 => ?_) (fun c5 => ?_)
      ·
        replace hm := ite_t (of_decide_eq_true c5) hm
        refine sd_skip rfl rfl rfl ?_
        refine sd_skip rfl rfl rfl ?_
        refine sd_skip rfl rfl rfl ?_
        refine sd_skip rfl rfl rfl ?_
        refine sd_vv rfl rfl rfl (vv_pickT rfl rfl) ?_
        refine sd_vv rfl rfl rfl (vv_move rfl) ?_
        refine sd_skip rfl rfl rfl ?_
        refine sd_skip rfl rfl rfl ?_
        refine sd_skip rfl rfl rfl ?_
        refine sd_skip rfl rfl rfl ?_
        refine sd_vv rfl rfl rfl (vv_pickT rfl rfl) ?_
        refine sd_nil ?_
        have K_26 : Kz [] w2 w2 := (Kz.refl _ _)
        refine ⟨rfl, true, ?_, hm, K_26⟩
        repeat' first | exact trivial | refine ⟨rfl, ?_⟩
      ·
        replace hm := ite_f (of_decide_eq_false c5) hm
        refine sd_vv rfl rfl rfl (vv_fieldAddr fa_28_2 rfl) ?_
        refine sd_vv rfl rfl rfl (vv_load1 (v := vp1_2) one_24 rfl Bw2 rfl) ?_
        have B27 := (Rd.gr (Rd.gr hp1_2 Gw1) Gw2)
        refine sd_vv rfl rfl rfl (vv_lenT (l := p1.Points) (c := TPoint.cs) Try.underlying24 rfl B27) ?_
        refine sd_vv rfl rfl rfl (vv_neq (a := (p1.Points.length : Int)) (b := 0) rfl rfl) ?_
        refine sd_vv rfl rfl rfl (vv_pickF rfl rfl) ?_
        refine sd_split rfl rfl rfl (vv_move rfl) (fun c6 => ?_) (fun c6 => ?_)
        ·
          replace hm := ite_t (of_decide_eq_true c6) hm
          refine sd_skip rfl rfl rfl ?_
          refine sd_skip rfl rfl rfl ?_
          refine sd_skip rfl rfl rfl ?_
          refine sd_skip rfl rfl rfl ?_
          refine sd_vv rfl rfl rfl (vv_pickT rfl rfl) ?_
          refine sd_nil ?_
          have K_28 : Kz [] w2 w2 := (Kz.refl _ _)
          refine ⟨rfl, true, ?_, hm, K_28⟩
          repeat' first | exact trivial | refine ⟨rfl, ?_⟩
        ·
          replace hm := ite_f (of_decide_eq_false c6) hm
          refine sd_vv rfl rfl rfl (vv_fieldAddr fa_28_3 rfl) ?_
          refine sd_vv rfl rfl rfl (vv_loadM (vs := kb p1.Box) agg_26 rfl Bw2 rfl rfl) ?_
          refine sd_vv rfl rfl rfl (vv_buildZ bz_26) ?_
          refine sd_vv rfl rfl rfl (vv_neqS (cf := kb) (a := p1.Box) (b := k0) eqt_26 rfl rfl rfl rfl (fun h => kb_inj h)) ?_
          refine sd_vv rfl rfl rfl (vv_pickF rfl rfl) ?_
          refine sd_nil ?_
          have K_29 : Kz [] w2 w2 := (Kz.refl _ _)
          refine ⟨rfl, (decide (p1.Box ≠ k0)), ?_, hm, K_29⟩
          repeat' first | exact trivial | refine ⟨rfl, ?_⟩

set_option maxHeartbeats 2000000 in
theorem ref02_Value_w (p0 : List (BitVec 8)) (vp0 : Value) (zp0 gp0 op0 : Nat) (r : BitVec 64) (hm : ref02_Value p0 = some r) (w : World) (hp0 : Rd w zp0 gp0 op0 1 vp0 (p0.map bvc))  :
    Calls Try.prog 73 [vp0].toArray w fun e w' => ∃ v, e = .returned v ∧ (v = wv r ∧ Gr w w') := by
  have lt1 := hp0.lth
  unfold ref02_Value at hm
  refine calls_of_sw (R := fun v w' => v = wv r ∧ Gr w w') 20 Try.func73 rfl rfl rfl ?_
  refine sw_seq ?_
  -- region 0 ref.go:27
  refine sw_region [(0, 0)] rfl rfl rfl ?_
  refine sd_vv rfl rfl rfl (vv_assign rfl) ?_
  refine sd_done ?_
  refine sw_seq ?_
  -- region 1 ref.go:28
  refine sw_region [(0, 0)] rfl rfl rfl ?_
  refine sd_vv rfl rfl rfl (vv_assign rfl) ?_
  refine sd_done ?_
  refine sw_seq ?_
  refine sw_seq ?_
  -- region 2 ref.go:29
  refine sw_region [(0, 0)] rfl rfl rfl ?_
  refine sd_vv rfl rfl rfl (vv_assign rfl) ?_
  refine sd_done ?_
  refine sw_block ?_
  refine sw_loopD (α := Nat × BitVec 64 × Int) [3, 4, 5, 6, 7, 8, 9, 10, 11, 12, 13, 14, 15, 16, 17, 18] (fun ⟨n1, a3, a4⟩ => [(3, wv a3), (4, .int .i64 a4)]) (fun ⟨n1, a3, a4⟩ wr => (fixN (ref02_Value_L1 p0) n1 (a3, a4) = some r) ∧ Kz [] w wr) (fun ⟨n1, a3, a4⟩ => n1) ⟨FUEL, 0#64, 0⟩ ?_ ?_ ?_
  · repeat' first | exact trivial | refine ⟨rfl, ?_⟩
  · exact ⟨hm, Kz.refl _ _⟩
  · clear hm; rintro ⟨n1, a3, a4⟩ w1 ⟨hm, Kw1⟩
    have z2 := Kw1.size
    have hb := fix_succ hm; clear hm; obtain ⟨n1, rfl, hm⟩ := hb
    generalize hrec1 : fixN (ref02_Value_L1 p0) n1 = rec1 at hm
    unfold ref02_Value_L1 at hm
    try dsimp only at hm
    refine sw_seq ?_
    refine sw_seq ?_
    -- region 3 ref.go:29
    refine sw_region [(0, 0), (1, 0), (2, 0), (3, 0)] rfl rfl rfl ?_
    refine sd_vv rfl rfl rfl (vv_move rfl) ?_
    refine sd_vv rfl rfl rfl (vv_move rfl) ?_
    have B3 := (Rd.kz hp0 Kw1)
    refine sd_vv rfl rfl rfl (vv_lenT (l := p0) (c := bvc) Try.underlying29 rfl B3) ?_
    refine sd_vv rfl rfl rfl (vv_lss (a := a4) (b := (p0.length : Int)) rfl rfl) ?_
    refine sd_done ?_
    refine sw_cond rfl (fun c1 => ?_) (fun c1 => ?_)
    ·
      replace hm := ite_t (of_decide_eq_true c1) hm
      refine sw_skip ?_
      refine then_n ?_
      refine sw_seq ?_
      refine sw_block ?_
      -- region 5 ref.go:30
      refine sw_region [(0, 0), (1, 0), (2, 0), (3, 0), (4, 0), (5, 0), (6, 0), (7, 0), (8, 0)] rfl rfl rfl ?_
      refine sd_vv rfl rfl rfl (vv_move rfl) ?_
      refine sd_vv rfl rfl rfl (vv_umul (a := 256#64) (b := a3) rfl rfl) ?_
      refine sd_vv rfl rfl rfl (vv_move rfl) ?_
      refine sd_vv rfl rfl rfl (vv_move rfl) ?_
      have hb := bnd hm; clear hm; obtain ⟨y5, hy5, hm⟩ := hb
      refine sd_vv rfl rfl rfl (vv_ixT (i := a4) Try.underlying29 (one_5).siz rfl B3 rfl hy5) ?_
      refine sd_vv rfl rfl rfl (vv_el1T (q := 0) (u := bv y5) one_5 rfl B3 hy5 (by first | rfl | omega) rfl) ?_
      refine sd_vv rfl rfl rfl (vv_cvBU cv_5_23 rfl) ?_
      refine sd_vv rfl rfl rfl (vv_uadd (a := 256#64 * a3) (b := y5.setWidth 64) rfl rfl) ?_
      refine sd_vv rfl rfl rfl (vv_assign rfl) ?_
      refine sd_nil ?_
      refine block_n ?_
      refine then_n ?_
      -- region 4 ref.go:29
      refine sw_region [(0, 0), (1, 0), (2, 0)] rfl rfl rfl ?_
      refine sd_vv rfl rfl rfl (vv_move rfl) ?_
      refine sd_vv rfl rfl rfl (vv_add (k := .i64) (a := a4) (b := 1) rfl rfl) ?_
      refine sd_vv rfl rfl rfl (vv_assign rfl) ?_
      refine sd_nil ?_
      have K_4 : Kz [] w w1 := Kw1
      subst hrec1
      refine ⟨rfl, ⟨n1, (256#64 * a3) + (y5.setWidth 64), w64 (a4 + 1)⟩, ?_, ⟨hm, K_4⟩, Nat.lt_succ_self _⟩
      repeat' first | exact trivial | refine ⟨rfl, ?_⟩
    ·
      replace hm := ite_f (of_decide_eq_false c1) hm
      refine sw_exit ?_
      refine then_x ?_
      refine then_x ?_
      refine block_x ?_
      refine then_n ?_
      refine sw_seq ?_
      -- region 6 ref.go:32
      refine sw_region [(0, 0), (1, 0)] rfl rfl rfl ?_
      refine sd_vv rfl rfl rfl (vv_move rfl) ?_
      refine sd_vv rfl rfl rfl (vv_assign rfl) ?_
      refine sd_done ?_
      refine sw_ret ?_
      have X5 : Gr w w1 := (Gr.kz (Gr.refl w) Kw1)
      have hr := Option.some.inj hm
      subst hr
      refine ⟨_, _, rfl, res_1 rfl (rv_tmp rfl), ?_⟩
      exact ⟨rfl, X5⟩

set_option maxHeartbeats 2000000 in
theorem ref02_words_w (p0 : W2)  (r : BitVec 64 × BitVec 64) (hm : ref02_words p0 = some r) (w : World)   :
    Calls Try.prog 137 [kv p0].toArray w fun e w' => ∃ v, e = .returned v ∧ (v = .tuple [wv r.1, wv r.2].toArray ∧ Gr w w') := by
  unfold ref02_words at hm
  refine calls_of_sw (R := fun v w' => v = .tuple [wv r.1, wv r.2].toArray ∧ Gr w w') 8 Try.func137 rfl rfl rfl ?_
  refine sw_seq ?_
  -- region 0 ref.go:36
  refine sw_region [(0, 0), (1, 0), (2, 0)] rfl rfl rfl ?_
  refine sd_ev rfl rfl rfl (ev_box (cs := kb p0) rfl rfl) ?_
  rintro _ w1 ⟨b1, rfl, hbw1, Bw1, Gw1⟩
  have z1 := Gw1.size
  have lt2 := Bw1.lt
  refine sd_vv rfl rfl rfl (vv_assign rfl) ?_
  refine sd_vv rfl rfl rfl (vv_assign rfl) ?_
  refine sd_done ?_
  refine sw_seq ?_
  -- region 1 ref.go:36 DRAWS
  refine sw_drawN [([])] [] (.leaf [(0, 10), (2, 10), (1, 0), (3, 0), (4, 10), (5, 10)]) (by kernel_rfl) (by kernel_rfl) rfl (by kernel_rfl) ?_
  intro w2 Gw2 zw2
  refine sdz_leaf ?_
  have B3 := (Bx.gr Bw1 Gw2)
  have Rk4 := rd_keyP (o := 0) (lo := 0) (hi := 8) (p := p0) B3 rfl (by decide) (by decide)
  have lt5 := Rk4.lth
  refine dd_hn 0 rfl rfl rfl rfl (Kp.refl ([]) w2) (fun w hS => vv_sliceA (n := 16) (l := 0) (h := 8) Try.underlying26 (one_5).siz rfl rfl ⟨_, rfl⟩ (by decide) (by decide) (by decide)) ?_
  have Rk6 := rd_keyP (o := 0) (lo := 8) (hi := 16) (p := p0) B3 rfl (by decide) (by decide)
  have lt7 := Rk6.lth
  refine dd_hn 0 rfl rfl rfl rfl (Kp.refl ([]) w2) (fun w hS => vv_sliceA (n := 16) (l := 8) (h := 16) Try.underlying26 (one_5).siz rfl ⟨_, rfl⟩ rfl (by decide) (by decide) (by decide)) ?_
  have hb := bnd hm; clear hm; obtain ⟨x1, hx1, hm⟩ := hb
  refine dd_z [] rfl rfl rfl (ev_call en_73 rfl (ref02_Value_w (((kby p0).take 8).drop 0) _ _ _ _ _ hx1 _ Rk4)) ⟨fun _ => tk0, trivial⟩ ?_
  rintro _ w3 ⟨rfl, Gw3⟩
  have z8 := Gw3.size
  refine ⟨Kz.ofGr Gw3, ?_⟩
  have B9 := (Rd.gr Rk6 Gw3)
  have hb := bnd hm; clear hm; obtain ⟨x2, hx2, hm⟩ := hb
  refine dd_z [] rfl rfl rfl (ev_call en_73 rfl (ref02_Value_w (((kby p0).take 16).drop 8) _ _ _ _ _ hx2 _ B9)) ⟨fun _ => tk0, trivial⟩ ?_
  rintro _ w4 ⟨rfl, Gw4⟩
  have z10 := Gw4.size
  refine ⟨Kz.ofGr Gw4, ?_⟩
  have S11 := (Kp.gr (Kp.gr (Kp.refl ([]) w2) Gw3) Gw4)
  refine dd_hn 0 rfl rfl rfl rfl S11 (fun w hS => vv_assign rfl) ?_
  refine dd_hn 0 rfl rfl rfl rfl S11 (fun w hS => vv_assign rfl) ?_
  refine sd_done ?_
  refine sw_ret ?_
  have X12 : Gr w w4 := (Gr.trans (Gr.trans (Gr.trans (Gr.trans (Gr.refl w) Gw1) Gw2) Gw3) Gw4)
  have hr := Option.some.inj hm
  subst hr
  refine ⟨_, _, rfl, res_2 rfl (rv_tmp rfl) (rv_tmp rfl), ?_⟩
  exact ⟨rfl, X12⟩

set_option maxHeartbeats 2000000 in
theorem ref02_rotr_w (p0 : BitVec 64) (p1 : Int)  (r : BitVec 64) (hm : ref02_rotr p0 p1 = some r) (w : World)   :
    Calls Try.prog 139 [wv p0, .int .i64 p1].toArray w fun e w' => ∃ v, e = .returned v ∧ (v = wv r ∧ Gr w w') := by
  unfold ref02_rotr at hm
  refine calls_of_sw (R := fun v w' => v = wv r ∧ Gr w w') 13 Try.func139 rfl rfl rfl ?_
  refine sw_seq ?_
  -- region 0 ref.go:51
  refine sw_region [(0, 0)] rfl rfl rfl ?_
  refine sd_vv rfl rfl rfl (vv_assign rfl) ?_
  refine sd_done ?_
  refine sw_seq ?_
  -- region 1 ref.go:51 DRAWS
  refine sw_drawN [([])] [] (.leaf [(0, 10), (1, 10), (2, 10), (3, 10), (4, 10), (5, 10), (6, 10), (7, 10), (8, 10)]) (by kernel_rfl) (by kernel_rfl) rfl (by kernel_rfl) ?_
  intro w1 Gw1 zw1
  refine sdz_leaf ?_
  refine dd_hn 0 rfl rfl rfl rfl (Kp.refl ([]) w1) (fun w hS => vv_move rfl) ?_
  refine dd_hn 0 rfl rfl rfl rfl (Kp.refl ([]) w1) (fun w hS => vv_move rfl) ?_
  have hb := bnd hm; clear hm; obtain ⟨n1, hn1, hm⟩ := hb
  refine dd_hn 0 rfl rfl rfl rfl (Kp.refl ([]) w1) (fun w hS => vv_shrU (c := p0) (b := p1) rfl rfl hn1) ?_
  refine dd_hn 0 rfl rfl rfl rfl (Kp.refl ([]) w1) (fun w hS => vv_move rfl) ?_
  refine dd_hn 0 rfl rfl rfl rfl (Kp.refl ([]) w1) (fun w hS => vv_move rfl) ?_
  refine dd_hn 0 rfl rfl rfl rfl (Kp.refl ([]) w1) (fun w hS => vv_sub (k := .i64) (a := 64) (b := p1) rfl rfl) ?_
  have hb := bnd hm; clear hm; obtain ⟨n2, hn2, hm⟩ := hb
  refine dd_hn 0 rfl rfl rfl rfl (Kp.refl ([]) w1) (fun w hS => vv_shlU (c := p0) (b := (w64 (64 - p1))) rfl rfl hn2) ?_
  refine dd_hn 0 rfl rfl rfl rfl (Kp.refl ([]) w1) (fun w hS => vv_uor (a := p0 >>> n1) (b := p0 <<< n2) rfl rfl) ?_
  refine dd_hn 0 rfl rfl rfl rfl (Kp.refl ([]) w1) (fun w hS => vv_assign rfl) ?_
  refine sd_done ?_
  refine sw_ret ?_
  have X1 : Gr w w1 := (Gr.trans (Gr.refl w) Gw1)
  have hr := Option.some.inj hm
  subst hr
  refine ⟨_, _, rfl, res_1 rfl (rv_tmp rfl), ?_⟩
  exact ⟨rfl, X1⟩

set_option maxHeartbeats 2000000 in
theorem ref02_rotl_w (p0 : BitVec 64) (p1 : Int)  (r : BitVec 64) (hm : ref02_rotl p0 p1 = some r) (w : World)   :
    Calls Try.prog 140 [wv p0, .int .i64 p1].toArray w fun e w' => ∃ v, e = .returned v ∧ (v = wv r ∧ Gr w w') := by
  unfold ref02_rotl at hm
  refine calls_of_sw (R := fun v w' => v = wv r ∧ Gr w w') 9 Try.func140 rfl rfl rfl ?_
  refine sw_seq ?_
  -- region 0 ref.go:54
  refine sw_region [(0, 0)] rfl rfl rfl ?_
  refine sd_vv rfl rfl rfl (vv_assign rfl) ?_
  refine sd_done ?_
  refine sw_seq ?_
  -- region 1 ref.go:54
  refine sw_region [(0, 0), (1, 0), (2, 0), (3, 0), (4, 0)] rfl rfl rfl ?_
  refine sd_vv rfl rfl rfl (vv_move rfl) ?_
  refine sd_vv rfl rfl rfl (vv_move rfl) ?_
  refine sd_vv rfl rfl rfl (vv_sub (k := .i64) (a := 64) (b := p1) rfl rfl) ?_
  have hb := bnd hm; clear hm; obtain ⟨x1, hx1, hm⟩ := hb
  refine sd_ev rfl rfl rfl (ev_call en_139 rfl (ref02_rotr_w p0 (w64 (64 - p1)) _ hx1 _)) ?_
  rintro _ w1 ⟨rfl, Gw1⟩
  have z1 := Gw1.size
  refine sd_vv rfl rfl rfl (vv_assign rfl) ?_
  refine sd_done ?_
  refine sw_ret ?_
  have X2 : Gr w w1 := (Gr.trans (Gr.refl w) Gw1)
  have hr := Option.some.inj hm
  subst hr
  refine ⟨_, _, rfl, res_1 rfl (rv_tmp rfl), ?_⟩
  exact ⟨rfl, X2⟩

set_option maxHeartbeats 2000000 in
theorem ref02_roundKeys_w (p0 : W2)  (r : List (BitVec 64)) (hm : ref02_roundKeys p0 = some r) (w : World)   :
    Calls Try.prog 138 [kv p0].toArray w fun e w' => ∃ v, e = .returned v ∧ (∃ (ur0_s : Value) (zr0_s : Nat) (gr0_s : Nat), v = ur0_s ∧ Own w' zr0_s gr0_s 23 1 ur0_s (r.map uwc) ∧ Hdn (zr0_s = 0 ∨ w.heap.size ≤ gr0_s) ∧ Gr w w') := by
  unfold ref02_roundKeys at hm
  refine calls_of_sw (R := fun v w' => ∃ (ur0_s : Value) (zr0_s : Nat) (gr0_s : Nat), v = ur0_s ∧ Own w' zr0_s gr0_s 23 1 ur0_s (r.map uwc) ∧ Hdn (zr0_s = 0 ∨ w.heap.size ≤ gr0_s) ∧ Gr w w') 34 Try.func138 rfl rfl rfl ?_
  refine sw_seq ?_
  -- region 0 ref.go:57
  refine sw_region [(0, 0), (1, 0)] rfl rfl rfl ?_
  refine sd_ev rfl rfl rfl (ev_box (cs := kb p0) rfl rfl) ?_
  rintro _ w1 ⟨b1, rfl, hbw1, Bw1, Gw1⟩
  have z1 := Gw1.size
  have lt2 := Bw1.lt
  refine sd_vv rfl rfl rfl (vv_assign rfl) ?_
  refine sd_done ?_
  refine sw_seq ?_
  -- region 1 ref.go:58
  refine sw_region [(0, 0), (1, 0), (2, 0), (3, 0), (4, 0), (5, 0), (6, 0)] rfl rfl rfl ?_
  refine sd_vv rfl rfl rfl (vv_loadW agg_26 rfl Bw1 rfl) ?_
  have hb := bnd hm; clear hm; obtain ⟨x1, hx1, hm⟩ := hb
  refine sd_ev rfl rfl rfl (ev_call en_137 rfl (ref02_words_w p0 _ hx1 _)) ?_
  rintro _ w2 ⟨rfl, Gw2⟩
  have z3 := Gw2.size
  refine sd_vv rfl rfl rfl (vv_move rfl) ?_
  refine sd_vv rfl rfl rfl (vv_extract rfl rfl) ?_
  refine sd_vv rfl rfl rfl (vv_extract rfl rfl) ?_
  refine sd_vv rfl rfl rfl (vv_assign rfl) ?_
  refine sd_vv rfl rfl rfl (vv_assign rfl) ?_
  refine sd_done ?_
  refine sw_seq ?_
  -- region 2 ref.go:59
  refine sw_region [(0, 0), (1, 0), (2, 0)] rfl rfl rfl ?_
  refine sd_vv rfl rfl rfl (vv_move rfl) ?_
  refine sd_ev rfl rfl rfl (ev_litT [x1.2] uwc bsl_200_1 rfl rfl (ws_of rfl) rfl rfl rfl) ?_
  rintro vw3 w3 ⟨gw3, hbw3, Ow3, Gw3⟩
  have z4 := Gw3.size
  have lt5 := Ow3.lth
  refine sd_vv rfl rfl rfl (vv_assign rfl) ?_
  refine sd_done ?_
  refine sw_seq ?_
  refine sw_seq ?_
  -- region 3 ref.go:60
  refine sw_region [(0, 0)] rfl rfl rfl ?_
  refine sd_vv rfl rfl rfl (vv_assign rfl) ?_
  refine sd_done ?_
  refine sw_block ?_
  have X6 : Gr w w3 := (Gr.trans (Gr.trans (Gr.trans (Gr.refl w) Gw1) Gw2) Gw3)
  refine sw_loopD (α := Nat × BitVec 64 × BitVec 64 × List (BitVec 64) × Int × Value × Nat × Nat) [3, 4, 5, 6, 14, 15, 16, 17, 18, 19, 20, 21, 22, 23, 24, 25, 26, 27, 28, 29, 30, 31, 32] (fun ⟨n1, a7, a8, a9, a11, vy10, zy10, gy10⟩ => [(3, wv a7), (4, wv a8), (5, vy10), (6, .int .i64 a11)]) (fun ⟨n1, a7, a8, a9, a11, vy10, zy10, gy10⟩ wr => (fixN (ref02_roundKeys_L1) n1 (a7, a8, a9, a11) = some r) ∧ Own wr zy10 gy10 23 1 vy10 (a9.map uwc) ∧ Hdn (zy10 = 0 ∨ (gy10 = gw3 ∧ 1 ≠ 0) ∨ w3.heap.size ≤ gy10) ∧ Kz [(1, gw3)] w3 wr) (fun ⟨n1, a7, a8, a9, a11, vy10, zy10, gy10⟩ => n1) ⟨FUEL, x1.1, x1.2, [x1.2], 0, vw3, 1, gw3⟩ ?_ ?_ ?_
  · repeat' first | exact trivial | refine ⟨rfl, ?_⟩
  · exact ⟨hm, Ow3, ⟨tk0⟩, Kz.refl _ _⟩
  · clear hm; rintro ⟨n1, a7, a8, a9, a11, vy10, zy10, gy10⟩ w4 ⟨hm, Fw4_0, Fw4_1, Kw4⟩
    have z7 := Kw4.size
    have lt8 := Fw4_0.lth
    have hb := fix_succ hm; clear hm; obtain ⟨n1, rfl, hm⟩ := hb
    generalize hrec1 : fixN (ref02_roundKeys_L1) n1 = rec1 at hm
    unfold ref02_roundKeys_L1 at hm
    try dsimp only at hm
    refine sw_seq ?_
    refine sw_seq ?_
    -- region 4 ref.go:60
    refine sw_region [(0, 0), (1, 0)] rfl rfl rfl ?_
    refine sd_vv rfl rfl rfl (vv_move rfl) ?_
    refine sd_vv rfl rfl rfl (vv_lss (a := a11) (b := 31) rfl rfl) ?_
    refine sd_done ?_
    refine sw_cond rfl (fun c1 => ?_) (fun c1 => ?_)
    ·
      replace hm := ite_t (of_decide_eq_true c1) hm
      refine sw_skip ?_
      refine then_n ?_
      refine sw_seq ?_
      refine sw_block ?_
      refine sw_seq ?_
      -- region 6 ref.go:61
      refine sw_region [(0, 0), (1, 0), (2, 0), (3, 0), (4, 0), (5, 0), (6, 0), (7, 0)] rfl rfl rfl ?_
      refine sd_vv rfl rfl rfl (vv_move rfl) ?_
      refine sd_vv rfl rfl rfl (vv_move rfl) ?_
      have hb := bnd hm; clear hm; obtain ⟨x12, hx12, hm⟩ := hb
      refine sd_ev rfl rfl rfl (ev_call en_139 rfl (ref02_rotr_w a7 8 _ hx12 _)) ?_
      rintro _ w5 ⟨rfl, Gw5⟩
      have z9 := Gw5.size
      refine sd_vv rfl rfl rfl (vv_uadd (a := a8) (b := x12) rfl rfl) ?_
      refine sd_vv rfl rfl rfl (vv_move rfl) ?_
      refine sd_vv rfl rfl rfl (vv_cvIU cv_3_23 rfl) ?_
      refine sd_vv rfl rfl rfl (vv_uxor (a := a8 + x12) (b := wd a11) rfl rfl) ?_
      refine sd_vv rfl rfl rfl (vv_assign rfl) ?_
      refine sd_done ?_
      refine sw_seq ?_
      -- region 7 ref.go:62
      refine sw_region [(0, 0), (1, 0), (2, 0), (3, 0), (4, 0)] rfl rfl rfl ?_
      refine sd_vv rfl rfl rfl (vv_move rfl) ?_
      have hb := bnd hm; clear hm; obtain ⟨x13, hx13, hm⟩ := hb
      refine sd_ev rfl rfl rfl (ev_call en_140 rfl (ref02_rotl_w a8 3 _ hx13 _)) ?_
      rintro _ w6 ⟨rfl, Gw6⟩
      have z10 := Gw6.size
      refine sd_vv rfl rfl rfl (vv_move rfl) ?_
      refine sd_vv rfl rfl rfl (vv_uxor (a := x13) (b := (a8 + x12) ^^^ (wd a11)) rfl rfl) ?_
      refine sd_vv rfl rfl rfl (vv_assign rfl) ?_
      refine sd_done ?_
      -- region 8 ref.go:63
      refine sw_region [(0, 0), (1, 0), (2, 0), (3, 0), (4, 0)] rfl rfl rfl ?_
      refine sd_vv rfl rfl rfl (vv_move rfl) ?_
      refine sd_vv rfl rfl rfl (vv_move rfl) ?_
      refine sd_ev rfl rfl rfl (ev_litT [x13 ^^^ ((a8 + x12) ^^^ (wd a11))] uwc bsl_200_1 rfl rfl (ws_of rfl) rfl rfl rfl) ?_
      rintro vw7 w7 ⟨gw7, hbw7, Ow7, Gw7⟩
      have z11 := Gw7.size
      have lt12 := Ow7.lth
      have B13 := (Own.gr (Own.gr (Own.gr Fw4_0 Gw5) Gw6) Gw7)
      have hb := bnd hm; clear hm; obtain ⟨l14, hl14, hm⟩ := hb
      refine sd_ev rfl rfl rfl (ev_appT (l := a9) (m := [x13 ^^^ ((a8 + x12) ^^^ (wd a11))]) (c := uwc) apt_200 rfl rfl B13 (Own.rd Ow7) hl14 (by decide)) ?_
      rintro vw8 w8 ⟨zw8, gw8, Ow8, Aw8, qw8, rw8⟩
      have z14 := Aw8.size
      refine sd_vv rfl rfl rfl (vv_assign rfl) ?_
      refine sd_nil ?_
      refine block_n ?_
      refine then_n ?_
      -- region 5 ref.go:60
      refine sw_region [(0, 0), (1, 0), (2, 0)] rfl rfl rfl ?_
      refine sd_vv rfl rfl rfl (vv_move rfl) ?_
      refine sd_vv rfl rfl rfl (vv_add (k := .i64) (a := a11) (b := 1) rfl rfl) ?_
      refine sd_vv rfl rfl rfl (vv_assign rfl) ?_
      refine sd_nil ?_
      have K_15 : Kz [(1, gw3)] w3 w8 := (Kz.ka (Kz.gr (Kz.gr (Kz.gr Kw4 Gw5) Gw6) Gw7) Aw8 (tk1 ((pv_1 (A := (fun x => (x = gw3 ∧ 1 ≠ 0) ∨ w3.heap.size ≤ x)) Fw4_1 tk0) : zy10 = 0 ∨ (gy10 = gw3 ∧ 1 ≠ 0) ∨ w3.heap.size ≤ gy10)))
      subst hrec1
      refine ⟨rfl, ⟨n1, (a8 + x12) ^^^ (wd a11), x13 ^^^ ((a8 + x12) ^^^ (wd a11)), l14, w64 (a11 + 1), vw8, zw8, gw8⟩, ?_, ⟨hm, Ow8, ⟨(pv_app (A := (fun x => (x = gw3 ∧ 1 ≠ 0) ∨ w3.heap.size ≤ x)) rw8 (pv_1 (A := (fun x => (x = gw3 ∧ 1 ≠ 0) ∨ w3.heap.size ≤ x)) Fw4_1 tk0))⟩, K_15⟩, Nat.lt_succ_self _⟩
      repeat' first | exact trivial | refine ⟨rfl, ?_⟩
    ·
      replace hm := ite_f (of_decide_eq_false c1) hm
      refine sw_exit ?_
      refine then_x ?_
      refine then_x ?_
      refine block_x ?_
      refine then_n ?_
      refine sw_seq ?_
      -- region 9 ref.go:65
      refine sw_region [(0, 0), (1, 0)] rfl rfl rfl ?_
      refine sd_vv rfl rfl rfl (vv_move rfl) ?_
      refine sd_vv rfl rfl rfl (vv_assign rfl) ?_
      refine sd_done ?_
      refine sw_ret ?_
      have X16 : Gr w w4 := (Gr.kz X6 Kw4 (tk1 ((.inr tk0) : 1 = 0 ∨ w.heap.size ≤ gw3)))
      have hr := Option.some.inj hm
      subst hr
      refine ⟨_, _, rfl, res_1 rfl (rv_tmp rfl), ?_⟩
      exact ⟨vy10, zy10, gy10, rfl, Fw4_0, ⟨(pv_1 (A := (fun x => w.heap.size ≤ x)) Fw4_1 (.inr tk0))⟩, X16⟩

set_option maxHeartbeats 2000000 in
theorem ref02_Bytes_w (p0 : BitVec 64) (p1 : Int)  (r : List (BitVec 8)) (hm : ref02_Bytes p0 p1 = some r) (w : World)   :
    Calls Try.prog 66 [wv p0, .int .i64 p1].toArray w fun e w' => ∃ v, e = .returned v ∧ (∃ (ur0_s : Value) (zr0_s : Nat) (gr0_s : Nat), v = ur0_s ∧ Own w' zr0_s gr0_s 5 1 ur0_s (r.map bvc) ∧ Hdn (zr0_s = 0 ∨ w.heap.size ≤ gr0_s) ∧ Gr w w') := by
  unfold ref02_Bytes at hm
  refine calls_of_sw (R := fun v w' => ∃ (ur0_s : Value) (zr0_s : Nat) (gr0_s : Nat), v = ur0_s ∧ Own w' zr0_s gr0_s 5 1 ur0_s (r.map bvc) ∧ Hdn (zr0_s = 0 ∨ w.heap.size ≤ gr0_s) ∧ Gr w w') 21 Try.func66 rfl rfl rfl ?_
  refine sw_seq ?_
  -- region 0 ref.go:17
  refine sw_region [(0, 0)] rfl rfl rfl ?_
  refine sd_vv rfl rfl rfl (vv_assign rfl) ?_
  refine sd_done ?_
  refine sw_seq ?_
  -- region 1 ref.go:18
  refine sw_region [(0, 0)] rfl rfl rfl ?_
  refine sd_vv rfl rfl rfl (vv_assign rfl) ?_
  refine sd_done ?_
  refine sw_seq ?_
  refine sw_seq ?_
  -- region 2 ref.go:19
  refine sw_region [(0, 0)] rfl rfl rfl ?_
  refine sd_vv rfl rfl rfl (vv_assign rfl) ?_
  refine sd_done ?_
  refine sw_block ?_
  refine sw_loopD (α := Nat × BitVec 64 × List (BitVec 8) × Int × Value × Nat × Nat) [0, 5, 6, 7, 8, 9, 10, 11, 12, 13, 14, 15, 16, 17, 18, 19] (fun ⟨n1, a5, a6, a8, vy7, zy7, gy7⟩ => [(0, wv a5), (5, vy7), (6, .int .i64 a8)]) (fun ⟨n1, a5, a6, a8, vy7, zy7, gy7⟩ wr => (fixN (ref02_Bytes_L1 p1) n1 (a5, a6, a8) = some r) ∧ Own wr zy7 gy7 5 1 vy7 (a6.map bvc) ∧ Hdn (zy7 = 0 ∨ w.heap.size ≤ gy7) ∧ Kz [] w wr) (fun ⟨n1, a5, a6, a8, vy7, zy7, gy7⟩ => n1) ⟨FUEL, p0, [], 0, (.slice none 0 0), 0, 0⟩ ?_ ?_ ?_
  · repeat' first | exact trivial | refine ⟨rfl, ?_⟩
  · exact ⟨hm, (own_nil _ 0 5 1), ⟨(.inl rfl)⟩, Kz.refl _ _⟩
  · clear hm; rintro ⟨n1, a5, a6, a8, vy7, zy7, gy7⟩ w1 ⟨hm, Fw1_0, Fw1_1, Kw1⟩
    have z1 := Kw1.size
    have lt2 := Fw1_0.lth
    have hb := fix_succ hm; clear hm; obtain ⟨n1, rfl, hm⟩ := hb
    generalize hrec1 : fixN (ref02_Bytes_L1 p1) n1 = rec1 at hm
    unfold ref02_Bytes_L1 at hm
    try dsimp only at hm
    refine sw_seq ?_
    refine sw_seq ?_
    -- region 3 ref.go:19
    refine sw_region [(0, 0), (1, 0), (2, 0)] rfl rfl rfl ?_
    refine sd_vv rfl rfl rfl (vv_move rfl) ?_
    refine sd_vv rfl rfl rfl (vv_move rfl) ?_
    refine sd_vv rfl rfl rfl (vv_lss (a := a8) (b := p1) rfl rfl) ?_
    refine sd_done ?_
    refine sw_cond rfl (fun c1 => ?_) (fun c1 => ?_)
    ·
      replace hm := ite_t (of_decide_eq_true c1) hm
      refine sw_skip ?_
      refine then_n ?_
      refine sw_seq ?_
      refine sw_block ?_
      refine sw_seq ?_
      -- region 5 ref.go:20
      refine sw_region [(0, 0), (1, 0), (2, 0), (3, 0), (4, 0), (5, 0), (6, 0)] rfl rfl rfl ?_
      refine sd_vv rfl rfl rfl (vv_move rfl) ?_
      have hb := bnd hm; clear hm; obtain ⟨x9, hx9, hm⟩ := hb
      refine sd_vv rfl rfl rfl (vv_remU (c := a5) (d := 256#64) rfl rfl hx9) ?_
      refine sd_vv rfl rfl rfl (vv_cvUB cv_23_5 rfl) ?_
      refine sd_ev rfl rfl rfl (ev_litT [x9.setWidth 8] bvc bsl_29_1 rfl rfl (ws_of rfl) rfl rfl rfl) ?_
      rintro vw2 w2 ⟨gw2, hbw2, Ow2, Gw2⟩
      have z3 := Gw2.size
      have lt4 := Ow2.lth
      refine sd_vv rfl rfl rfl (vv_move rfl) ?_
      have B5 := (Own.gr Fw1_0 Gw2)
      have hb := bnd hm; clear hm; obtain ⟨l10, hl10, hm⟩ := hb
      refine sd_ev rfl rfl rfl (ev_appT (l := [x9.setWidth 8]) (m := a6) (c := bvc) apt_29 rfl rfl Ow2 (Own.rd B5) hl10 (by decide)) ?_
      rintro vw3 w3 ⟨zw3, gw3, Ow3, Aw3, qw3, rw3⟩
      have z6 := Aw3.size
      refine sd_vv rfl rfl rfl (vv_assign rfl) ?_
      refine sd_done ?_
      -- region 6 ref.go:21
      refine sw_region [(0, 0), (1, 0), (2, 0)] rfl rfl rfl ?_
      refine sd_vv rfl rfl rfl (vv_move rfl) ?_
      have hb := bnd hm; clear hm; obtain ⟨x11, hx11, hm⟩ := hb
      refine sd_vv rfl rfl rfl (vv_quoU (c := a5) (d := 256#64) rfl rfl hx11) ?_
      refine sd_vv rfl rfl rfl (vv_assign rfl) ?_
      refine sd_nil ?_
      refine block_n ?_
      refine then_n ?_
      -- region 4 ref.go:19
      refine sw_region [(0, 0), (1, 0), (2, 0)] rfl rfl rfl ?_
      refine sd_vv rfl rfl rfl (vv_move rfl) ?_
      refine sd_vv rfl rfl rfl (vv_add (k := .i64) (a := a8) (b := 1) rfl rfl) ?_
      refine sd_vv rfl rfl rfl (vv_assign rfl) ?_
      refine sd_nil ?_
      have K_7 : Kz [] w w3 := (Kz.ka (Kz.gr Kw1 Gw2) Aw3 (tk1 ((.inr tk0) : 1 = 0 ∨ w.heap.size ≤ gw2)))
      subst hrec1
      refine ⟨rfl, ⟨n1, x11, l10, w64 (a8 + 1), vw3, zw3, gw3⟩, ?_, ⟨hm, Ow3, ⟨(pv_app (A := (fun x => w.heap.size ≤ x)) rw3 (.inr tk0))⟩, K_7⟩, Nat.lt_succ_self _⟩
      repeat' first | exact trivial | refine ⟨rfl, ?_⟩
    ·
      replace hm := ite_f (of_decide_eq_false c1) hm
      refine sw_exit ?_
      refine then_x ?_
      refine then_x ?_
      refine block_x ?_
      refine then_n ?_
      refine sw_seq ?_
      -- region 7 ref.go:23
      refine sw_region [(0, 0), (1, 0)] rfl rfl rfl ?_
      refine sd_vv rfl rfl rfl (vv_move rfl) ?_
      refine sd_vv rfl rfl rfl (vv_assign rfl) ?_
      refine sd_done ?_
      refine sw_ret ?_
      have X8 : Gr w w1 := (Gr.kz (Gr.refl w) Kw1)
      have hr := Option.some.inj hm
      subst hr
      refine ⟨_, _, rfl, res_1 rfl (rv_tmp rfl), ?_⟩
      exact ⟨vy7, zy7, gy7, rfl, Fw1_0, ⟨(pv_0 (A := (fun x => w.heap.size ≤ x)) Fw1_1)⟩, X8⟩

set_option maxHeartbeats 2000000 in
theorem ref02_key_w (p0 : List (BitVec 8)) (vp0 : Value) (zp0 gp0 op0 : Nat) (r : W2) (hm : ref02_key p0 = some r) (w : World) (hp0 : Rd w zp0 gp0 op0 1 vp0 (p0.map bvc))  :
    Calls Try.prog 158 [vp0].toArray w fun e w' => ∃ v, e = .returned v ∧ (v = kv r ∧ Gr w w') := by
  have lt1 := hp0.lth
  unfold ref02_key at hm
  refine calls_of_sw (R := fun v w' => v = kv r ∧ Gr w w') 22 Try.func158 rfl rfl rfl ?_
  refine sw_seq ?_
  -- region 0 ref.go:42
  refine sw_region [(0, 0)] rfl rfl rfl ?_
  refine sd_ev rfl rfl rfl (ev_alloc (cs := kb k0) zv_26 rfl) ?_
  rintro _ w1 ⟨b1, rfl, hbw1, Bw1, Gw1⟩
  have z2 := Gw1.size
  have lt3 := Bw1.lt
  refine sd_done ?_
  refine sw_seq ?_
  -- region 1 ref.go:43
  refine sw_region [(0, 0)] rfl rfl rfl ?_
  refine sd_ev rfl rfl rfl (ev_alloc (cs := kb k0) zv_26 rfl) ?_
  rintro _ w2 ⟨b2, rfl, hbw2, Bw2, Gw2⟩
  have z4 := Gw2.size
  have lt5 := Bw2.lt
  refine sd_done ?_
  refine sw_seq ?_
  refine sw_seq ?_
  -- region 2 ref.go:44
  refine sw_region [(0, 0)] rfl rfl rfl ?_
  refine sd_vv rfl rfl rfl (vv_assign rfl) ?_
  refine sd_done ?_
  refine sw_block ?_
  have X6 : Gr w w2 := (Gr.trans (Gr.trans (Gr.refl w) Gw1) Gw2)
  have B7 := (Rd.gr (Rd.gr hp0 Gw1) Gw2)
  refine sw_loopD (α := Nat × Int × W2) [4, 5, 6, 7, 8, 9, 10, 11, 12, 13, 14, 15, 16, 17, 18, 19, 20] (fun ⟨n1, a3, a4⟩ => [(4, .int .i64 a3)]) (fun ⟨n1, a3, a4⟩ wr => (fixN (ref02_key_L1 p0) n1 (a3, a4) = some r) ∧ Bx wr b2 26 (kb a4) ∧ Kz [(1, b2)] w2 wr) (fun ⟨n1, a3, a4⟩ => n1) ⟨FUEL, 0, k0⟩ ?_ ?_ ?_
  · repeat' first | exact trivial | refine ⟨rfl, ?_⟩
  · exact ⟨hm, Bw2, Kz.refl _ _⟩
  · clear hm; rintro ⟨n1, a3, a4⟩ w3 ⟨hm, Fw3_0, Kw3⟩
    have z8 := Kw3.size
    have lt9 := Fw3_0.lt
    have hb := fix_succ hm; clear hm; obtain ⟨n1, rfl, hm⟩ := hb
    generalize hrec1 : fixN (ref02_key_L1 p0) n1 = rec1 at hm
    unfold ref02_key_L1 at hm
    try dsimp only at hm
    refine sw_seq ?_
    have X10 : Gr w w3 := (Gr.kz X6 Kw3)
    refine sw_joinD (β := Bool) [5, 6, 7, 8, 9, 10, 11, 12] (fun a5 => [(12, .bool a5)]) (fun a5 wr => (ref02_key_J2 p0 a3 a4 rec1 a5 = some r) ∧ Kz [] w3 wr) ?_ ?_
    · clear hm; rintro a5 w4 ⟨hm, Kw4⟩
      have z11 := Kw4.size
      unfold ref02_key_J2 at hm
      refine sw_cond rfl (fun c1 => ?_) (fun c1 => ?_)
      ·
        replace hm := cnd_t c1 hm
        refine sw_skip ?_
        refine then_n ?_
        refine sw_seq ?_
        refine sw_block ?_
        -- region 5 ref.go:45
        refine sw_region [(0, 0), (1, 0), (2, 0), (3, 0), (4, 0), (5, 0), (6, 0)] rfl rfl rfl ?_
        refine sd_vv rfl rfl rfl (vv_move rfl) ?_
        refine sd_vv rfl rfl rfl (vv_move rfl) ?_
        refine sd_vv rfl rfl rfl (vv_move rfl) ?_
        have hb := bnd hm; clear hm; obtain ⟨y6, hy6, hm⟩ := hb
        have B12 := (Rd.kz (Rd.kz B7 Kw3 (tk1 ((pv_lt (A := (fun x => x ≠ b2)) lt1) : zp0 = 0 ∨ gp0 ≠ b2))) Kw4)
        refine sd_vv rfl rfl rfl (vv_ixT (i := a3) Try.underlying29 (one_5).siz rfl B12 rfl hy6) ?_
        refine sd_vv rfl rfl rfl (vv_el1T (q := 0) (u := bv y6) one_5 rfl B12 hy6 (by first | rfl | omega) rfl) ?_
        have hb := bnd hm; clear hm; obtain ⟨y7, hy7, hm⟩ := hb
        refine sd_vv rfl rfl rfl (vv_ixK (i := a3) (p := a4) Try.underlying26 (one_5).siz rfl rfl hy7) ?_
        have B13 := (Bx.kz Fw3_0 Kw4)
        have hb := bnd hm; clear hm; obtain ⟨x8, hx8, hm⟩ := hb
        refine sd_ev rfl rfl rfl (ev_stK (off := 0) (p := a4) (q := x8) (i := a3) (cs' := kb x8) (one_5).siz rfl rfl B13 rfl hx8 rfl rfl rfl) ?_
        rintro _ w5 ⟨Bw5, Mw5⟩
        have z14 := Mw5.size
        refine sd_nil ?_
        refine block_n ?_
        refine then_n ?_
        -- region 4 ref.go:44
        refine sw_region [(0, 0), (1, 0), (2, 0)] rfl rfl rfl ?_
        refine sd_vv rfl rfl rfl (vv_move rfl) ?_
        refine sd_vv rfl rfl rfl (vv_add (k := .i64) (a := a3) (b := 1) rfl rfl) ?_
        refine sd_vv rfl rfl rfl (vv_assign rfl) ?_
        refine sd_nil ?_
        have K_15 : Kz [(1, b2)] w2 w5 := (Kz.md (Kz.kz Kw3 Kw4) Mw5)
        subst hrec1
        refine ⟨rfl, ⟨n1, w64 (a3 + 1), x8⟩, ?_, ⟨hm, Bw5, K_15⟩, Nat.lt_succ_self _⟩
        repeat' first | exact trivial | refine ⟨rfl, ?_⟩
      ·
        replace hm := cnd_f c1 hm
        refine sw_exit ?_
        refine then_x ?_
        refine then_x ?_
        refine block_x ?_
        refine then_n ?_
        refine sw_seq ?_
        -- region 6 ref.go:47
        refine sw_region [(0, 0), (1, 0)] rfl rfl rfl ?_
        have B16 := (Bx.kz Fw3_0 Kw4)
        refine sd_vv rfl rfl rfl (vv_loadW agg_26 rfl B16 rfl) ?_
        have B17 := (Bx.kz (Bx.kz (Bx.gr Bw1 Gw2) Kw3) Kw4)
        refine sd_ev rfl rfl rfl (ev_stM (cs' := kb a4) (vs := kb a4) (agg_26).siz rfl rfl rfl rfl rfl B17 rfl rfl) ?_
        rintro _ w6 ⟨Bw6, Mw6⟩
        have z18 := Mw6.size
        refine sd_done ?_
        refine sw_ret ?_
        have X19 : Gr w w6 := (Gr.md (Gr.kz X10 Kw4) Mw6)
        have hr := Option.some.inj hm
        subst hr
        refine ⟨_, _, rfl, res_1 rfl (rv_cellW agg_26 rfl Bw6 rfl), ?_⟩
        exact ⟨rfl, X19⟩
    ·
      -- region 3 ref.go:44
      refine sw_region [(0, 0), (1, 0), (2, 0), (3, 0), (4, 0), (5, 0), (6, 0), (7, 0)] rfl rfl rfl ?_
      refine sd_vv rfl rfl rfl (vv_move rfl) ?_
      refine sd_vv rfl rfl rfl (vv_lss (a := a3) (b := 16) rfl rfl) ?_
      refine sd_split rfl rfl rfl (vv_move rfl) (fun c2 => ?_) (fun c2 => ?_)
      ·
        replace hm := ite_t (of_decide_eq_true c2) hm
        refine sd_vv rfl rfl rfl (vv_move rfl) ?_
        refine sd_vv rfl rfl rfl (vv_move rfl) ?_
        have B20 := (Rd.kz B7 Kw3 (tk1 ((pv_lt (A := (fun x => x ≠ b2)) lt1) : zp0 = 0 ∨ gp0 ≠ b2)))
        refine sd_vv rfl rfl rfl (vv_lenT (l := p0) (c := bvc) Try.underlying29 rfl B20) ?_
        refine sd_vv rfl rfl rfl (vv_lss (a := a3) (b := (p0.length : Int)) rfl rfl) ?_
        refine sd_vv rfl rfl rfl (vv_pickT rfl rfl) ?_
        refine sd_nil ?_
        have K_21 : Kz [] w3 w3 := (Kz.refl _ _)
        refine ⟨rfl, (decide (a3 < (p0.length : Int))), ?_, hm, K_21⟩
        repeat' first | exact trivial | refine ⟨rfl, ?_⟩
      ·
        replace hm := ite_f (of_decide_eq_false c2) hm
        refine sd_skip rfl rfl rfl ?_
        refine sd_skip rfl rfl rfl ?_
        refine sd_skip rfl rfl rfl ?_
        refine sd_skip rfl rfl rfl ?_
        refine sd_vv rfl rfl rfl (vv_pickF rfl rfl) ?_
        refine sd_nil ?_
        have K_22 : Kz [] w3 w3 := (Kz.refl _ _)
        refine ⟨rfl, false, ?_, hm, K_22⟩
        repeat' first | exact trivial | refine ⟨rfl, ?_⟩

set_option maxHeartbeats 2000000 in
theorem ref02_block_w (p0 : BitVec 64) (p1 : BitVec 64)  (r : W2) (hm : ref02_block p0 p1 = some r) (w : World)   :
    Calls Try.prog 141 [wv p0, wv p1].toArray w fun e w' => ∃ v, e = .returned v ∧ (v = kv r ∧ Gr w w') := by
  unfold ref02_block at hm
  refine calls_of_sw (R := fun v w' => v = kv r ∧ Gr w w') 11 Try.func141 rfl rfl rfl ?_
  refine sw_seq ?_
  -- region 0 ref.go:39
  refine sw_region [(0, 0)] rfl rfl rfl ?_
  refine sd_ev rfl rfl rfl (ev_alloc (cs := kb k0) zv_26 rfl) ?_
  rintro _ w1 ⟨b1, rfl, hbw1, Bw1, Gw1⟩
  have z1 := Gw1.size
  have lt2 := Bw1.lt
  refine sd_done ?_
  refine sw_seq ?_
  -- region 1 ref.go:39
  refine sw_region [(0, 0), (1, 0), (2, 0), (3, 0), (4, 0), (5, 0), (6, 0)] rfl rfl rfl ?_
  refine sd_vv rfl rfl rfl (vv_move rfl) ?_
  have hb := bnd hm; clear hm; obtain ⟨x1, hx1, hm⟩ := hb
  refine sd_ev rfl rfl rfl (ev_call en_66 rfl (ref02_Bytes_w p0 8 _ hx1 _)) ?_
  rintro u2_r0_s w2 ⟨_, z2_r0_s, g2_r0_s, rfl, O2_r0_s, f2_r0_s, Gw2⟩
  have z3 := Gw2.size
  have lt4 := O2_r0_s.lth
  refine sd_vv rfl rfl rfl (vv_move rfl) ?_
  have hb := bnd hm; clear hm; obtain ⟨x2, hx2, hm⟩ := hb
  refine sd_ev rfl rfl rfl (ev_call en_66 rfl (ref02_Bytes_w p1 8 _ hx2 _)) ?_
  rintro u3_r0_s w3 ⟨_, z3_r0_s, g3_r0_s, rfl, O3_r0_s, f3_r0_s, Gw3⟩
  have z5 := Gw3.size
  have lt6 := O3_r0_s.lth
  have B7 := (Own.gr O2_r0_s Gw3)
  have hb := bnd hm; clear hm; obtain ⟨l3, hl3, hm⟩ := hb
  refine sd_ev rfl rfl rfl (ev_appT (l := x1) (m := x2) (c := bvc) apt_29 rfl rfl B7 (Own.rd O3_r0_s) hl3 (by decide)) ?_
  rintro vw4 w4 ⟨zw4, gw4, Ow4, Aw4, qw4, rw4⟩
  have z8 := Aw4.size
  have hb := bnd hm; clear hm; obtain ⟨x4, hx4, hm⟩ := hb
  refine sd_ev rfl rfl rfl (ev_call en_158 rfl (ref02_key_w l3 _ _ _ _ _ hx4 _ (Own.rd Ow4))) ?_
  rintro _ w5 ⟨rfl, Gw5⟩
  have z9 := Gw5.size
  have B10 := (Bx.gr (Bx.ka (Bx.gr (Bx.gr Bw1 Gw2) Gw3) Aw4 (tk1 ((pv_0 (A := (fun x => x ≠ b1)) f2_r0_s) : z2_r0_s = 0 ∨ g2_r0_s ≠ b1))) Gw5)
  refine sd_ev rfl rfl rfl (ev_stM (cs' := kb x4) (vs := kb x4) (agg_26).siz rfl rfl rfl rfl rfl B10 rfl rfl) ?_
  rintro _ w6 ⟨Bw6, Mw6⟩
  have z11 := Mw6.size
  refine sd_done ?_
  refine sw_ret ?_
  have X12 : Gr w w6 := (Gr.md (Gr.trans (Gr.ka (Gr.trans (Gr.trans (Gr.trans (Gr.refl w) Gw1) Gw2) Gw3) Aw4 (tk1 ((pv_0 (A := (fun x => w.heap.size ≤ x)) f2_r0_s) : z2_r0_s = 0 ∨ w.heap.size ≤ g2_r0_s))) Gw5) Mw6)
  have hr := Option.some.inj hm
  subst hr
  refine ⟨_, _, rfl, res_1 rfl (rv_cellW agg_26 rfl Bw6 rfl), ?_⟩
  exact ⟨rfl, X12⟩

set_option maxHeartbeats 2000000 in
theorem ref02_Decrypt_w (p0 : W2) (p1 : W2)  (r : W2) (hm : ref02_Decrypt p0 p1 = some r) (w : World)   :
    Calls Try.prog 103 [kv p0, kv p1].toArray w fun e w' => ∃ v, e = .returned v ∧ (v = kv r ∧ Gr w w') := by
  unfold ref02_Decrypt at hm
  refine calls_of_sw (R := fun v w' => v = kv r ∧ Gr w w') 36 Try.func103 rfl rfl rfl ?_
  refine sw_seq ?_
  -- region 0 ref.go:80
  refine sw_region [(0, 0), (1, 0), (2, 0)] rfl rfl rfl ?_
  refine sd_ev rfl rfl rfl (ev_box (cs := kb p0) rfl rfl) ?_
  rintro _ w1 ⟨b1, rfl, hbw1, Bw1, Gw1⟩
  have z1 := Gw1.size
  have lt2 := Bw1.lt
  refine sd_ev rfl rfl rfl (ev_box (cs := kb p1) rfl rfl) ?_
  rintro _ w2 ⟨b2, rfl, hbw2, Bw2, Gw2⟩
  have z3 := Gw2.size
  have lt4 := Bw2.lt
  refine sd_ev rfl rfl rfl (ev_alloc (cs := kb k0) zv_26 rfl) ?_
  rintro _ w3 ⟨b3, rfl, hbw3, Bw3, Gw3⟩
  have z5 := Gw3.size
  have lt6 := Bw3.lt
  refine sd_done ?_
  refine sw_seq ?_
  -- region 1 ref.go:81
  refine sw_region [(0, 0), (1, 0), (2, 0), (3, 0), (4, 0), (5, 0), (6, 0)] rfl rfl rfl ?_
  have B7 := (Bx.gr Bw2 Gw3)
  refine sd_vv rfl rfl rfl (vv_loadW agg_26 rfl B7 rfl) ?_
  have hb := bnd hm; clear hm; obtain ⟨x1, hx1, hm⟩ := hb
  refine sd_ev rfl rfl rfl (ev_call en_137 rfl (ref02_words_w p1 _ hx1 _)) ?_
  rintro _ w4 ⟨rfl, Gw4⟩
  have z8 := Gw4.size
  refine sd_vv rfl rfl rfl (vv_move rfl) ?_
  refine sd_vv rfl rfl rfl (vv_extract rfl rfl) ?_
  refine sd_vv rfl rfl rfl (vv_extract rfl rfl) ?_
  refine sd_vv rfl rfl rfl (vv_assign rfl) ?_
  refine sd_vv rfl rfl rfl (vv_assign rfl) ?_
  refine sd_done ?_
  refine sw_seq ?_
  -- region 2 ref.go:82
  refine sw_region [(0, 0), (1, 0), (2, 0)] rfl rfl rfl ?_
  have B9 := (Bx.gr (Bx.gr (Bx.gr Bw1 Gw2) Gw3) Gw4)
  refine sd_vv rfl rfl rfl (vv_loadW agg_26 rfl B9 rfl) ?_
  have hb := bnd hm; clear hm; obtain ⟨x2, hx2, hm⟩ := hb
  refine sd_ev rfl rfl rfl (ev_call en_138 rfl (ref02_roundKeys_w p0 _ hx2 _)) ?_
  rintro u5_r0_s w5 ⟨_, z5_r0_s, g5_r0_s, rfl, O5_r0_s, f5_r0_s, Gw5⟩
  have z10 := Gw5.size
  have lt11 := O5_r0_s.lth
  refine sd_vv rfl rfl rfl (vv_assign rfl) ?_
  refine sd_done ?_
  refine sw_seq ?_
  refine sw_seq ?_
  -- region 3 ref.go:83
  refine sw_region [(0, 0)] rfl rfl rfl ?_
  refine sd_vv rfl rfl rfl (vv_assign rfl) ?_
  refine sd_done ?_
  refine sw_block ?_
  have X12 : Gr w w5 := (Gr.trans (Gr.trans (Gr.trans (Gr.trans (Gr.trans (Gr.refl w) Gw1) Gw2) Gw3) Gw4) Gw5)
  refine sw_loopD (α := Nat × BitVec 64 × BitVec 64 × Int) [5, 6, 8, 16, 17, 18, 19, 20, 21, 22, 23, 24, 25, 26, 27, 28, 29, 30, 31, 32] (fun ⟨n1, a6, a7, a8⟩ => [(5, wv a6), (6, wv a7), (8, .int .i64 a8)]) (fun ⟨n1, a6, a7, a8⟩ wr => (fixN (ref02_Decrypt_L1 x2) n1 (a6, a7, a8) = some r) ∧ Kz [] w5 wr) (fun ⟨n1, a6, a7, a8⟩ => n1) ⟨FUEL, x1.1, x1.2, 31⟩ ?_ ?_ ?_
  · repeat' first | exact trivial | refine ⟨rfl, ?_⟩
  · exact ⟨hm, Kz.refl _ _⟩
  · clear hm; rintro ⟨n1, a6, a7, a8⟩ w6 ⟨hm, Kw6⟩
    have z13 := Kw6.size
    have hb := fix_succ hm; clear hm; obtain ⟨n1, rfl, hm⟩ := hb
    generalize hrec1 : fixN (ref02_Decrypt_L1 x2) n1 = rec1 at hm
    unfold ref02_Decrypt_L1 at hm
    try dsimp only at hm
    refine sw_seq ?_
    refine sw_seq ?_
    -- region 4 ref.go:83
    refine sw_region [(0, 0), (1, 0)] rfl rfl rfl ?_
    refine sd_vv rfl rfl rfl (vv_move rfl) ?_
    refine sd_vv rfl rfl rfl (vv_geq (a := a8) (b := 0) rfl rfl) ?_
    refine sd_done ?_
    refine sw_cond rfl (fun c1 => ?_) (fun c1 => ?_)
    ·
      replace hm := ite_t (of_decide_eq_true c1) hm
      refine sw_skip ?_
      refine then_n ?_
      refine sw_seq ?_
      refine sw_block ?_
      refine sw_seq ?_
      -- region 6 ref.go:84
      refine sw_region [(0, 0), (1, 0), (2, 0), (3, 0), (4, 0)] rfl rfl rfl ?_
      refine sd_vv rfl rfl rfl (vv_move rfl) ?_
      refine sd_vv rfl rfl rfl (vv_move rfl) ?_
      refine sd_vv rfl rfl rfl (vv_uxor (a := a7) (b := a6) rfl rfl) ?_
      have hb := bnd hm; clear hm; obtain ⟨x9, hx9, hm⟩ := hb
      refine sd_ev rfl rfl rfl (ev_call en_139 rfl (ref02_rotr_w (a7 ^^^ a6) 3 _ hx9 _)) ?_
      rintro _ w7 ⟨rfl, Gw7⟩
      have z14 := Gw7.size
      refine sd_vv rfl rfl rfl (vv_assign rfl) ?_
      refine sd_done ?_
      -- region 7 ref.go:85
      refine sw_region [(0, 0), (1, 0), (2, 0), (3, 0), (4, 0), (5, 0), (6, 0), (7, 0), (8, 0), (9, 0)] rfl rfl rfl ?_
      refine sd_vv rfl rfl rfl (vv_move rfl) ?_
      refine sd_vv rfl rfl rfl (vv_move rfl) ?_
      refine sd_vv rfl rfl rfl (vv_move rfl) ?_
      have hb := bnd hm; clear hm; obtain ⟨y10, hy10, hm⟩ := hb
      have B15 := (Own.gr (Own.kz O5_r0_s Kw6) Gw7)
      refine sd_vv rfl rfl rfl (vv_ixT (i := a8) Try.underlying200 (one_23).siz rfl (Own.rd B15) rfl hy10) ?_
      refine sd_vv rfl rfl rfl (vv_el1T (q := 0) (u := wv y10) one_23 rfl (Own.rd B15) hy10 (by first | rfl | omega) rfl) ?_
      refine sd_vv rfl rfl rfl (vv_uxor (a := a6) (b := y10) rfl rfl) ?_
      refine sd_vv rfl rfl rfl (vv_move rfl) ?_
      refine sd_vv rfl rfl rfl (vv_usub (a := a6 ^^^ y10) (b := x9) rfl rfl) ?_
      have hb := bnd hm; clear hm; obtain ⟨x11, hx11, hm⟩ := hb
      refine sd_ev rfl rfl rfl (ev_call en_140 rfl (ref02_rotl_w ((a6 ^^^ y10) - x9) 8 _ hx11 _)) ?_
      rintro _ w8 ⟨rfl, Gw8⟩
      have z16 := Gw8.size
      refine sd_vv rfl rfl rfl (vv_assign rfl) ?_
      refine sd_nil ?_
      refine block_n ?_
      refine then_n ?_
      -- region 5 ref.go:83
      refine sw_region [(0, 0), (1, 0), (2, 0)] rfl rfl rfl ?_
      refine sd_vv rfl rfl rfl (vv_move rfl) ?_
      refine sd_vv rfl rfl rfl (vv_sub (k := .i64) (a := a8) (b := 1) rfl rfl) ?_
      refine sd_vv rfl rfl rfl (vv_assign rfl) ?_
      refine sd_nil ?_
      have K_17 : Kz [] w5 w8 := (Kz.gr (Kz.gr Kw6 Gw7) Gw8)
      subst hrec1
      refine ⟨rfl, ⟨n1, x11, x9, w64 (a8 - 1)⟩, ?_, ⟨hm, K_17⟩, Nat.lt_succ_self _⟩
      repeat' first | exact trivial | refine ⟨rfl, ?_⟩
    ·
      replace hm := ite_f (of_decide_eq_false c1) hm
      refine sw_exit ?_
      refine then_x ?_
      refine then_x ?_
      refine block_x ?_
      refine then_n ?_
      refine sw_seq ?_
      -- region 8 ref.go:87
      refine sw_region [(0, 0), (1, 0), (2, 0), (3, 0)] rfl rfl rfl ?_
      refine sd_vv rfl rfl rfl (vv_move rfl) ?_
      refine sd_vv rfl rfl rfl (vv_move rfl) ?_
      have hb := bnd hm; clear hm; obtain ⟨x12, hx12, hm⟩ := hb
      refine sd_ev rfl rfl rfl (ev_call en_141 rfl (ref02_block_w a6 a7 _ hx12 _)) ?_
      rintro _ w9 ⟨rfl, Gw9⟩
      have z18 := Gw9.size
      have B19 := (Bx.gr (Bx.kz (Bx.gr (Bx.gr Bw3 Gw4) Gw5) Kw6) Gw9)
      refine sd_ev rfl rfl rfl (ev_stM (cs' := kb x12) (vs := kb x12) (agg_26).siz rfl rfl rfl rfl rfl B19 rfl rfl) ?_
      rintro _ w10 ⟨Bw10, Mw10⟩
      have z20 := Mw10.size
      refine sd_done ?_
      refine sw_ret ?_
      have X21 : Gr w w10 := (Gr.md (Gr.trans (Gr.kz X12 Kw6) Gw9) Mw10)
      have hr := Option.some.inj hm
      subst hr
      refine ⟨_, _, rfl, res_1 rfl (rv_cellW agg_26 rfl Bw10 rfl), ?_⟩
      exact ⟨rfl, X21⟩

set_option maxHeartbeats 2000000 in
theorem ref03_Open_w (p0 : TScheme) (p1 : TSecret) (p2 : THeader) (vp1_1 : Value) (zp1_1 gp1_1 op1_1 : Nat) (vp2_0 : Value) (zp2_0 gp2_0 op2_0 : Nat) (vp2_2 : Value) (zp2_2 gp2_2 op2_2 : Nat) (r : W2 × Int) (hm : ref03_Open p0 p1 p2 = some r) (w : World) (hp1_1 : Rd w zp1_1 gp1_1 op1_1 18 vp1_1 (p1.Labels.map TLabel.cs)) (hp2_0 : Rd w zp2_0 gp2_0 op2_0 18 vp2_0 (p2.Items.map TItem.cs)) (hp2_2 : Rd w zp2_2 gp2_2 op2_2 2 vp2_2 (p2.Points.map TPoint.cs))  :
    Calls Try.prog 45 [.agg (TScheme.cs p0).toArray, .agg (TSecret.cs p1 vp1_1).toArray, .agg (THeader.cs p2 vp2_0 vp2_2).toArray].toArray w fun e w' => ∃ v, e = .returned v ∧ (v = .tuple [kv r.1, .int .i64 r.2].toArray ∧ Gr w w') := by
  have lt1 := hp1_1.lth
  have lt2 := hp2_0.lth
  have lt3 := hp2_2.lth
  unfold ref03_Open at hm
  refine calls_of_sw (R := fun v w' => v = .tuple [kv r.1, .int .i64 r.2].toArray ∧ Gr w w') 57 Try.func45 rfl rfl rfl ?_
  refine sw_seq ?_
  -- region 0 ref.go:499
  refine sw_region [(0, 0), (1, 0), (2, 0), (3, 0), (4, 0)] rfl rfl rfl ?_
  refine sd_ev rfl rfl rfl (ev_box (cs := TScheme.cs p0) rfl rfl) ?_
  rintro _ w1 ⟨b1, rfl, hbw1, Bw1, Gw1⟩
  have z4 := Gw1.size
  have lt5 := Bw1.lt
  refine sd_ev rfl rfl rfl (ev_box (cs := TSecret.cs p1 vp1_1) rfl rfl) ?_
  rintro _ w2 ⟨b2, rfl, hbw2, Bw2, Gw2⟩
  have z6 := Gw2.size
  have lt7 := Bw2.lt
  refine sd_ev rfl rfl rfl (ev_box (cs := THeader.cs p2 vp2_0 vp2_2) rfl rfl) ?_
  rintro _ w3 ⟨b3, rfl, hbw3, Bw3, Gw3⟩
  have z8 := Gw3.size
  have lt9 := Bw3.lt
  refine sd_ev rfl rfl rfl (ev_alloc (cs := kb k0) zv_26 rfl) ?_
  rintro _ w4 ⟨b4, rfl, hbw4, Bw4, Gw4⟩
  have z10 := Gw4.size
  have lt11 := Bw4.lt
  refine sd_vv rfl rfl rfl (vv_assign rfl) ?_
  refine sd_done ?_
  refine sw_seq ?_
  refine sw_seq ?_
  -- region 1 ref.go:500
  refine sw_region [(0, 0), (1, 0), (2, 0)] rfl rfl rfl ?_
  have B12 := (Bx.gr (Bx.gr (Bx.gr Bw1 Gw2) Gw3) Gw4)
  refine sd_vv rfl rfl rfl (vv_loadW agg_45 rfl B12 rfl) ?_
  have hb := bnd hm; clear hm; obtain ⟨x1, hx1, hm⟩ := hb
  refine sd_ev rfl rfl rfl (ev_call en_59 rfl (ref03_Valid_w p0 _ hx1 _)) ?_
  rintro _ w5 ⟨rfl, Gw5⟩
  have z13 := Gw5.size
  refine sd_vv rfl rfl rfl (vv_not rfl) ?_
  refine sd_done ?_
  refine sw_cond rfl (fun c1 => ?_) (fun c1 => ?_)
  ·
    replace hm := cnd_t c1 hm
    refine sw_seq ?_
    -- region 2 ref.go:501
    refine sw_region [(0, 0), (1, 0), (2, 0)] rfl rfl rfl ?_
    refine sd_vv rfl rfl rfl (vv_buildZ bz_26) ?_
    have B14 := (Bx.gr Bw4 Gw5)
    refine sd_ev rfl rfl rfl (ev_stM (cs' := kb k0) (vs := kb k0) (agg_26).siz rfl rfl rfl rfl rfl B14 rfl rfl) ?_
    rintro _ w6 ⟨Bw6, Mw6⟩
    have z15 := Mw6.size
    refine sd_vv rfl rfl rfl (vv_assign rfl) ?_
    refine sd_done ?_
    refine sw_ret ?_
    refine then_r ?_
    have X16 : Gr w w6 := (Gr.md (Gr.trans (Gr.trans (Gr.trans (Gr.trans (Gr.trans (Gr.refl w) Gw1) Gw2) Gw3) Gw4) Gw5) Mw6)
    have hr := Option.some.inj hm
    subst hr
    refine ⟨_, _, rfl, res_2 rfl (rv_cellW agg_26 rfl Bw6 rfl) (rv_tmp rfl), ?_⟩
    exact ⟨rfl, X16⟩
  ·
    replace hm := cnd_f c1 hm
    refine sw_skip ?_
    refine then_n ?_
    refine sw_seq ?_
    refine sw_seq ?_
    -- region 3 ref.go:503
    refine sw_region [(0, 0), (1, 0), (2, 0), (3, 0)] rfl rfl rfl ?_
    have B17 := (Bx.gr B12 Gw5)
    refine sd_vv rfl rfl rfl (vv_loadW agg_45 rfl B17 rfl) ?_
    have B18 := (Bx.gr (Bx.gr Bw3 Gw4) Gw5)
    refine sd_vv rfl rfl rfl (vv_loadW agg_28 rfl B18 rfl) ?_
    have B19 := (Rd.gr (Rd.gr (Rd.gr (Rd.gr (Rd.gr hp2_0 Gw1) Gw2) Gw3) Gw4) Gw5)
    have B20 := (Rd.gr (Rd.gr (Rd.gr (Rd.gr (Rd.gr hp2_2 Gw1) Gw2) Gw3) Gw4) Gw5)
    have hb := bnd hm; clear hm; obtain ⟨x2, hx2, hm⟩ := hb
    refine sd_ev rfl rfl rfl (ev_call en_101 rfl (ref03_ValidHeader_w p0 p2 _ _ _ _ _ _ _ _ _ hx2 _ B19 B20)) ?_
    rintro _ w7 ⟨rfl, Gw7⟩
    have z21 := Gw7.size
    refine sd_vv rfl rfl rfl (vv_not rfl) ?_
    refine sd_done ?_
    refine sw_cond rfl (fun c2 => ?_) (fun c2 => ?_)
    ·
      replace hm := cnd_t c2 hm
      refine sw_seq ?_
      -- region 4 ref.go:504
      refine sw_region [(0, 0), (1, 0), (2, 0)] rfl rfl rfl ?_
      refine sd_vv rfl rfl rfl (vv_buildZ bz_26) ?_
      have B22 := (Bx.gr (Bx.gr Bw4 Gw5) Gw7)
      refine sd_ev rfl rfl rfl (ev_stM (cs' := kb k0) (vs := kb k0) (agg_26).siz rfl rfl rfl rfl rfl B22 rfl rfl) ?_
      rintro _ w8 ⟨Bw8, Mw8⟩
      have z23 := Mw8.size
      refine sd_vv rfl rfl rfl (vv_assign rfl) ?_
      refine sd_done ?_
      refine sw_ret ?_
      refine then_r ?_
      have X24 : Gr w w8 := (Gr.md (Gr.trans (Gr.trans (Gr.trans (Gr.trans (Gr.trans (Gr.trans (Gr.refl w) Gw1) Gw2) Gw3) Gw4) Gw5) Gw7) Mw8)
      have hr := Option.some.inj hm
      subst hr
      refine ⟨_, _, rfl, res_2 rfl (rv_cellW agg_26 rfl Bw8 rfl) (rv_tmp rfl), ?_⟩
      exact ⟨rfl, X24⟩
    ·
      replace hm := cnd_f c2 hm
      refine sw_skip ?_
      refine then_n ?_
      refine sw_seq ?_
      refine sw_seq ?_
      -- region 5 ref.go:506
      refine sw_region [(0, 0)] rfl rfl rfl ?_
      refine sd_vv rfl rfl rfl (vv_assign rfl) ?_
      refine sd_done ?_
      refine sw_block ?_
      have X25 : Gr w w7 := (Gr.trans (Gr.trans (Gr.trans (Gr.trans (Gr.trans (Gr.trans (Gr.refl w) Gw1) Gw2) Gw3) Gw4) Gw5) Gw7)
      have B26 := (Rd.gr (Rd.gr (Rd.gr (Rd.gr (Rd.gr (Rd.gr hp1_1 Gw1) Gw2) Gw3) Gw4) Gw5) Gw7)
      have B27 := (Rd.gr B19 Gw7)
      have B28 := (Rd.gr B20 Gw7)
      refine sw_loopD (α := Nat × Int) [7, 8, 9, 10, 11, 21, 22, 23, 24, 25, 26, 27, 28, 29, 30, 31, 32, 33, 34, 35, 36, 37, 38, 39, 40, 41, 42, 43, 44, 45, 46, 47, 48, 49, 50, 51, 52, 53, 54, 55] (fun ⟨n1, a4⟩ => [(7, .int .i64 0), (8, .int .i64 a4)]) (fun ⟨n1, a4⟩ wr => (fixN (ref03_Open_L1 p0 p1 p2) n1 a4 = some r) ∧ Kz [] w7 wr) (fun ⟨n1, a4⟩ => n1) ⟨FUEL, 0⟩ ?_ ?_ ?_
      · repeat' first | exact trivial | refine ⟨rfl, ?_⟩
      · exact ⟨hm, Kz.refl _ _⟩
      · clear hm; rintro ⟨n1, a4⟩ w9 ⟨hm, Kw9⟩
        have z29 := Kw9.size
        have hb := fix_succ hm; clear hm; obtain ⟨n1, rfl, hm⟩ := hb
        generalize hrec1 : fixN (ref03_Open_L1 p0 p1 p2) n1 = rec1 at hm
        unfold ref03_Open_L1 at hm
        try dsimp only at hm
        refine sw_seq ?_
        refine sw_seq ?_
        -- region 6 ref.go:506
        refine sw_region [(0, 0), (1, 0), (2, 0), (3, 0), (4, 0)] rfl rfl rfl ?_
        refine sd_vv rfl rfl rfl (vv_move rfl) ?_
        refine sd_vv rfl rfl rfl (vv_fieldAddr fa_28_0 rfl) ?_
        have B30 := (Bx.kz (Bx.gr B18 Gw7) Kw9)
        refine sd_vv rfl rfl rfl (vv_load1 (v := vp2_0) one_22 rfl B30 rfl) ?_
        have B31 := (Rd.kz B27 Kw9)
        refine sd_vv rfl rfl rfl (vv_lenT (l := p2.Items) (c := TItem.cs) Try.underlying22 rfl B31) ?_
        refine sd_vv rfl rfl rfl (vv_lss (a := a4) (b := (p2.Items.length : Int)) rfl rfl) ?_
        refine sd_done ?_
        refine sw_cond rfl (fun c3 => ?_) (fun c3 => ?_)
        ·
          replace hm := ite_t (of_decide_eq_true c3) hm
          refine sw_skip ?_
          refine then_n ?_
          refine sw_seq ?_
          refine sw_block ?_
          have X32 : Gr w w9 := (Gr.kz X25 Kw9)
          refine sw_joinD (β := W2 × Bool × Nat) [9, 10, 28, 29, 30, 31, 32, 33, 34, 35, 36, 37, 38, 39] (fun ⟨a6, a7, bq5⟩ => [(9, .pointer (some ⟨bq5, 0, none⟩)), (10, .bool a7)]) (fun ⟨a6, a7, bq5⟩ wr => (ref03_Open_J2 p2 a4 rec1 a6 a7 = some r) ∧ Bx wr bq5 26 (kb a6) ∧ w9.heap.size ≤ bq5 ∧ Kz [] w9 wr) ?_ ?_
          · clear hm; rintro ⟨a6, a7, bq5⟩ w10 ⟨hm, Fw10_0, Fw10_1, Kw10⟩
            have z33 := Kw10.size
            have lt34 := Fw10_0.lt
            unfold ref03_Open_J2 at hm
            refine sw_seq ?_
            refine sw_seq ?_
            -- region 9 ref.go:508
            refine sw_region [(0, 0), (1, 0)] rfl rfl rfl ?_
            refine sd_vv rfl rfl rfl (vv_move rfl) ?_
            refine sd_vv rfl rfl rfl (vv_not rfl) ?_
            refine sd_done ?_
            refine sw_cond rfl (fun c4 => ?_) (fun c4 => ?_)
            ·
              replace hm := cnd_t c4 hm
              refine sw_exit ?_
              refine then_x ?_
              refine block_x ?_
              refine then_n ?_
              -- region 7 ref.go:506
              refine sw_region [(0, 0), (1, 0), (2, 0)] rfl rfl rfl ?_
              refine sd_vv rfl rfl rfl (vv_move rfl) ?_
              refine sd_vv rfl rfl rfl (vv_add (k := .i64) (a := a4) (b := 1) rfl rfl) ?_
              refine sd_vv rfl rfl rfl (vv_assign rfl) ?_
              refine sd_nil ?_
              have K_35 : Kz [] w7 w10 := (Kz.kz Kw9 Kw10)
              subst hrec1
              refine ⟨rfl, ⟨n1, w64 (a4 + 1)⟩, ?_, ⟨hm, K_35⟩, Nat.lt_succ_self _⟩
              repeat' first | exact trivial | refine ⟨rfl, ?_⟩
            ·
              replace hm := cnd_f c4 hm
              refine sw_skip ?_
              refine then_n ?_
              have X36 : Gr w w10 := (Gr.kz X32 Kw10)
              refine sw_joinD (β := W2 × Nat) [11, 42, 43, 44, 45, 46, 47, 48, 49] (fun ⟨a9, bq8⟩ => [(11, .pointer (some ⟨bq8, 0, none⟩))]) (fun ⟨a9, bq8⟩ wr => (ref03_Open_J3 p2 a4 rec1 a9 = some r) ∧ Bx wr bq8 26 (kb a9) ∧ w10.heap.size ≤ bq8 ∧ Kz [] w10 wr) ?_ ?_
              · clear hm; rintro ⟨a9, bq8⟩ w11 ⟨hm, Fw11_0, Fw11_1, Kw11⟩
                have z37 := Kw11.size
                have lt38 := Fw11_0.lt
                unfold ref03_Open_J3 at hm
                refine sw_seq ?_
                -- region 11 ref.go:512 DRAWS
                refine sw_drawN [([])] [] (.leaf [(0, 10), (2, 10), (3, 10), (1, 0), (4, 10)]) (by kernel_rfl) (by kernel_rfl) rfl (by kernel_rfl) ?_
                intro w12 Gw12 zw12
                refine sdz_leaf ?_
                have B39 := (Bx.gr Fw11_0 Gw12)
                refine dd_hn 0 rfl rfl rfl rfl (Kp.refl ([]) w12) (fun w hS => vv_loadW agg_26 rfl (Bx.kp B39 hS) rfl) ?_
                refine dd_hn 0 rfl rfl rfl rfl (Kp.refl ([]) w12) (fun w hS => vv_fieldAddr fa_28_4 rfl) ?_
                have B40 := (Bx.gr (Bx.kz (Bx.kz B30 Kw10) Kw11) Gw12)
                refine dd_hn 0 rfl rfl rfl rfl (Kp.refl ([]) w12) (fun w hS => vv_loadM (vs := kb p2.Check) agg_26 rfl (Bx.kp B40 hS) rfl rfl) ?_
                refine dd_z [] rfl rfl rfl (ev_call en_89 rfl (rderive_c a9 (un8 53#8) (un8_nn _) (un8_le _) 0#64 _)) ⟨fun _ => tk0, trivial⟩ ?_
                rintro _ w13 ⟨rfl, Gw13⟩
                have z41 := Gw13.size
                refine ⟨Kz.ofGr Gw13, ?_⟩
                have S42 := (Kp.gr (Kp.refl ([]) w12) Gw13)
                refine dd_hn 0 rfl rfl rfl rfl S42 (fun w hS => vv_eqlS (cf := kb) (a := drv a9 (un8 53#8) 0#64) (b := p2.Check) eqt_26 rfl rfl rfl rfl (fun h => kb_inj h)) ?_
                refine sd_done ?_
                refine sw_cond rfl (fun c5 => ?_) (fun c5 => ?_)
                ·
                  replace hm := ite_t (of_decide_eq_true c5) hm
                  refine sw_seq ?_
                  -- region 12 ref.go:513
                  refine sw_region [(0, 0), (1, 0), (2, 0)] rfl rfl rfl ?_
                  have B43 := (Bx.gr B39 Gw13)
                  refine sd_vv rfl rfl rfl (vv_loadW agg_26 rfl B43 rfl) ?_
                  have B44 := (Bx.gr (Bx.gr (Bx.kz (Bx.kz (Bx.kz (Bx.gr (Bx.gr Bw4 Gw5) Gw7) Kw9) Kw10) Kw11) Gw12) Gw13)
                  refine sd_ev rfl rfl rfl (ev_stM (cs' := kb a9) (vs := kb a9) (agg_26).siz rfl rfl rfl rfl rfl B44 rfl rfl) ?_
                  rintro _ w14 ⟨Bw14, Mw14⟩
                  have z45 := Mw14.size
                  refine sd_vv rfl rfl rfl (vv_assign rfl) ?_
                  refine sd_done ?_
                  refine sw_ret ?_
                  refine block_r ?_
                  refine then_r ?_
                  refine then_r ?_
                  refine block_r ?_
                  refine then_r ?_
                  have X46 : Gr w w14 := (Gr.md (Gr.trans (Gr.trans (Gr.kz X36 Kw11) Gw12) Gw13) Mw14)
                  have hr := Option.some.inj hm
                  subst hr
                  refine ⟨_, _, rfl, res_2 rfl (rv_cellW agg_26 rfl Bw14 rfl) (rv_tmp rfl), ?_⟩
                  exact ⟨rfl, X46⟩
                ·
                  replace hm := ite_f (of_decide_eq_false c5) hm
                  refine sw_skip ?_
                  refine block_n ?_
                  refine then_n ?_
                  -- region 7 ref.go:506
                  refine sw_region [(0, 0), (1, 0), (2, 0)] rfl rfl rfl ?_
                  refine sd_vv rfl rfl rfl (vv_move rfl) ?_
                  refine sd_vv rfl rfl rfl (vv_add (k := .i64) (a := a4) (b := 1) rfl rfl) ?_
                  refine sd_vv rfl rfl rfl (vv_assign rfl) ?_
                  refine sd_nil ?_
                  have K_47 : Kz [] w7 w13 := (Kz.gr (Kz.gr (Kz.kz (Kz.kz Kw9 Kw10) Kw11) Gw12) Gw13)
                  subst hrec1
                  refine ⟨rfl, ⟨n1, w64 (a4 + 1)⟩, ?_, ⟨hm, K_47⟩, Nat.lt_succ_self _⟩
                  repeat' first | exact trivial | refine ⟨rfl, ?_⟩
              ·
                -- region 10 ref.go:511 DRAWS
                refine sw_drawN [([])] [] (.fork [(0, 10), (1, 10), (2, 10), (3, 10), (4, 10), (5, 10), (6, 10)] (.leaf [(7, 0), (8, 0), (9, 0)]) (.leaf [(8, 0), (7, 0), (9, 0)])) (by kernel_rfl) (by kernel_rfl) rfl (by kernel_rfl) ?_
                intro w15 Gw15 zw15
                refine sdz_fork ?_
                have B48 := (Bx.gr Fw10_0 Gw15)
                refine dd_hn 0 rfl rfl rfl rfl (Kp.refl ([]) w15) (fun w hS => vv_loadW agg_26 rfl (Bx.kp B48 hS) rfl) ?_
                refine dd_hn 0 rfl rfl rfl rfl (Kp.refl ([]) w15) (fun w hS => vv_fieldAddr fa_28_0 rfl) ?_
                have B49 := (Bx.gr (Bx.kz B30 Kw10) Gw15)
                refine dd_hn 0 rfl rfl rfl rfl (Kp.refl ([]) w15) (fun w hS => vv_load1 (v := vp2_0) one_22 rfl (Bx.kp B49 hS) rfl) ?_
                refine dd_hn 0 rfl rfl rfl rfl (Kp.refl ([]) w15) (fun w hS => vv_move rfl) ?_
                have hb := bnd hm; clear hm; obtain ⟨y10, hy10, hm⟩ := hb
                have B50 := (Rd.gr (Rd.kz B31 Kw10) Gw15)
                refine dd_hn 0 rfl rfl rfl rfl (Kp.refl ([]) w15) (fun w hS => vv_ixT (i := a4) Try.underlying22 (agg_108).siz rfl (Rd.kp B50 hS) rfl hy10) ?_
                refine dd_hn 0 rfl rfl rfl rfl (Kp.refl ([]) w15) (fun w hS => vv_fieldAddr fa_108_1 rfl) ?_
                refine dd_hn 0 rfl rfl rfl rfl (Kp.refl ([]) w15) (fun w hS => vv_elMT (q := 2) (vs := kb y10.Box) agg_26 rfl (Rd.kp B50 hS) hy10 (by first | rfl | omega) rfl rfl) ?_
                refine sd_fork ?_ ?_
                ·
                  refine sdz_leaf ?_
                  have hb := bnd hm; clear hm; obtain ⟨x11, hx11, hm⟩ := hb
                  refine dd_z [] rfl rfl rfl (ev_call en_103 rfl (ref02_Decrypt_w a6 y10.Box _ hx11 _)) ⟨fun _ => tk0, trivial⟩ ?_
                  rintro _ w16 ⟨rfl, Gw16⟩
                  have z51 := Gw16.size
                  refine ⟨Kz.ofGr Gw16, ?_⟩
                  refine dd_z [] rfl rfl rfl (ev_alloc (cs := kb k0) zv_26 rfl) ⟨fun _ => tk0, trivial⟩ ?_
                  rintro _ w17 ⟨b17, rfl, hbw17, Bw17, Gw17⟩
                  have z52 := Gw17.size
                  have lt53 := Bw17.lt
                  refine ⟨Kz.ofGr Gw17, ?_⟩
                  refine dd_z [(1, b17)] rfl rfl rfl (ev_stM (cs' := kb x11) (vs := kb x11) (agg_26).siz rfl rfl rfl rfl rfl Bw17 rfl rfl) ⟨fun _ => tk0, trivial⟩ ?_
                  rintro _ w18 ⟨Bw18, Mw18⟩
                  have z54 := Mw18.size
                  refine ⟨Kz.ofMd Mw18, ?_⟩
                  refine sd_nil ?_
                  have K_55 : Kz [] w10 w18 := (Kz.md (Kz.gr (Kz.gr (Kz.gr (Kz.refl _ _) Gw15) Gw16) Gw17) Mw18)
                  refine ⟨rfl, ⟨x11, b17⟩, ?_, hm, Bw18, (by omega), K_55⟩
                  repeat' first | exact trivial | refine ⟨rfl, ?_⟩
                ·
                  refine sdz_leaf ?_
                  refine dd_z [] rfl rfl rfl (ev_alloc (cs := kb k0) zv_26 rfl) ⟨fun _ => tk0, trivial⟩ ?_
                  rintro _ w19 ⟨b19, rfl, hbw19, Bw19, Gw19⟩
                  have z56 := Gw19.size
                  have lt57 := Bw19.lt
                  refine ⟨Kz.ofGr Gw19, ?_⟩
                  have hb := bnd hm; clear hm; obtain ⟨x12, hx12, hm⟩ := hb
                  refine dd_z [] rfl rfl rfl (ev_call en_103 rfl (ref02_Decrypt_w a6 y10.Box _ hx12 _)) ⟨fun _ => tk0, trivial⟩ ?_
                  rintro _ w20 ⟨rfl, Gw20⟩
                  have z58 := Gw20.size
                  refine ⟨Kz.ofGr Gw20, ?_⟩
                  have B59 := (Bx.gr Bw19 Gw20)
                  refine dd_z [(1, b19)] rfl rfl rfl (ev_stM (cs' := kb x12) (vs := kb x12) (agg_26).siz rfl rfl rfl rfl rfl B59 rfl rfl) ⟨fun _ => tk0, trivial⟩ ?_
                  rintro _ w21 ⟨Bw21, Mw21⟩
                  have z60 := Mw21.size
                  refine ⟨Kz.ofMd Mw21, ?_⟩
                  refine sd_nil ?_
                  have K_61 : Kz [] w10 w21 := (Kz.md (Kz.gr (Kz.gr (Kz.gr (Kz.refl _ _) Gw15) Gw19) Gw20) Mw21)
                  refine ⟨rfl, ⟨x12, b19⟩, ?_, hm, Bw21, (by omega), K_61⟩
                  repeat' first | exact trivial | refine ⟨rfl, ?_⟩
          ·
            -- region 8 ref.go:507 DRAWS
            refine sw_drawN [([])] [] (.fork [(0, 10), (1, 10), (2, 10), (3, 10), (4, 10), (5, 10), (6, 10), (7, 10)] (.leaf [(8, 0), (9, 10), (10, 10), (11, 10), (12, 0), (13, 0), (14, 10)]) (.leaf [(12, 0), (8, 0), (9, 10), (10, 10), (11, 10), (13, 0), (14, 10)])) (by kernel_rfl) (by kernel_rfl) rfl (by kernel_rfl) ?_
            intro w22 Gw22 zw22
            refine sdz_fork ?_
            have B62 := (Bx.gr (Bx.kz (Bx.gr B17 Gw7) Kw9) Gw22)
            refine dd_hn 0 rfl rfl rfl rfl (Kp.refl ([]) w22) (fun w hS => vv_loadW agg_45 rfl (Bx.kp B62 hS) rfl) ?_
            have B63 := (Bx.gr (Bx.kz (Bx.gr (Bx.gr (Bx.gr (Bx.gr Bw2 Gw3) Gw4) Gw5) Gw7) Kw9) Gw22)
            refine dd_hn 0 rfl rfl rfl rfl (Kp.refl ([]) w22) (fun w hS => vv_loadW agg_74 rfl (Bx.kp B63 hS) rfl) ?_
            refine dd_hn 0 rfl rfl rfl rfl (Kp.refl ([]) w22) (fun w hS => vv_fieldAddr fa_28_0 rfl) ?_
            have B64 := (Bx.gr B30 Gw22)
            refine dd_hn 0 rfl rfl rfl rfl (Kp.refl ([]) w22) (fun w hS => vv_load1 (v := vp2_0) one_22 rfl (Bx.kp B64 hS) rfl) ?_
            refine dd_hn 0 rfl rfl rfl rfl (Kp.refl ([]) w22) (fun w hS => vv_move rfl) ?_
            have hb := bnd hm; clear hm; obtain ⟨y13, hy13, hm⟩ := hb
            have B65 := (Rd.gr B31 Gw22)
            refine dd_hn 0 rfl rfl rfl rfl (Kp.refl ([]) w22) (fun w hS => vv_ixT (i := a4) Try.underlying22 (agg_108).siz rfl (Rd.kp B65 hS) rfl hy13) ?_
            refine dd_hn 0 rfl rfl rfl rfl (Kp.refl ([]) w22) (fun w hS => vv_fieldAddr fa_108_0 rfl) ?_
            refine dd_hn 0 rfl rfl rfl rfl (Kp.refl ([]) w22) (fun w hS => vv_elMT (q := 0) (vs := TSubset.cs y13.Subset) agg_47 rfl (Rd.kp B65 hS) hy13 (by first | rfl | omega) rfl rfl) ?_
            refine sd_fork ?_ ?_
            ·
              refine sdz_leaf ?_
              have B66 := (Rd.gr (Rd.kz B26 Kw9) Gw22)
              have hb := bnd hm; clear hm; obtain ⟨x14, hx14, hm⟩ := hb
              refine dd_z [] rfl rfl rfl (ev_call en_102 rfl (ref03_Leads_w p0 p1 y13.Subset _ _ _ _ _ hx14 _ B66)) ⟨fun _ => tk0, trivial⟩ ?_
              rintro _ w23 ⟨rfl, Gw23⟩
              have z67 := Gw23.size
              refine ⟨Kz.ofGr Gw23, ?_⟩
              have S68 := (Kp.gr (Kp.refl ([]) w22) Gw23)
              refine dd_hn 0 rfl rfl rfl rfl S68 (fun w hS => vv_move rfl) ?_
              refine dd_hn 0 rfl rfl rfl rfl S68 (fun w hS => vv_extract rfl rfl) ?_
              refine dd_hn 0 rfl rfl rfl rfl S68 (fun w hS => vv_extract rfl rfl) ?_
              refine dd_z [] rfl rfl rfl (ev_alloc (cs := kb k0) zv_26 rfl) ⟨fun _ => tk0, trivial⟩ ?_
              rintro _ w24 ⟨b24, rfl, hbw24, Bw24, Gw24⟩
              have z69 := Gw24.size
              have lt70 := Bw24.lt
              refine ⟨Kz.ofGr Gw24, ?_⟩
              refine dd_z [(1, b24)] rfl rfl rfl (ev_stM (cs' := kb x14.1) (vs := kb x14.1) (agg_26).siz rfl rfl rfl rfl rfl Bw24 rfl rfl) ⟨fun _ => tk0, trivial⟩ ?_
              rintro _ w25 ⟨Bw25, Mw25⟩
              have z71 := Mw25.size
              refine ⟨Kz.ofMd Mw25, ?_⟩
              have S72 := (Kp.md (Kp.gr S68 Gw24) Mw25)
              refine dd_hn 0 rfl rfl rfl rfl S72 (fun w hS => vv_assign rfl) ?_
              refine sd_nil ?_
              have K_73 : Kz [] w9 w25 := (Kz.md (Kz.gr (Kz.gr (Kz.gr (Kz.refl _ _) Gw22) Gw23) Gw24) Mw25)
              refine ⟨rfl, ⟨x14.1, x14.2, b24⟩, ?_, hm, Bw25, (by omega), K_73⟩
              repeat' first | exact trivial | refine ⟨rfl, ?_⟩
            ·
              refine sdz_leaf ?_
              refine dd_z [] rfl rfl rfl (ev_alloc (cs := kb k0) zv_26 rfl) ⟨fun _ => tk0, trivial⟩ ?_
              rintro _ w26 ⟨b26, rfl, hbw26, Bw26, Gw26⟩
              have z74 := Gw26.size
              have lt75 := Bw26.lt
              refine ⟨Kz.ofGr Gw26, ?_⟩
              have B76 := (Rd.gr (Rd.gr (Rd.kz B26 Kw9) Gw22) Gw26)
              have hb := bnd hm; clear hm; obtain ⟨x15, hx15, hm⟩ := hb
              refine dd_z [] rfl rfl rfl (ev_call en_102 rfl (ref03_Leads_w p0 p1 y13.Subset _ _ _ _ _ hx15 _ B76)) ⟨fun _ => tk0, trivial⟩ ?_
              rintro _ w27 ⟨rfl, Gw27⟩
              have z77 := Gw27.size
              refine ⟨Kz.ofGr Gw27, ?_⟩
              have S78 := (Kp.gr (Kp.gr (Kp.refl ([]) w22) Gw26) Gw27)
              refine dd_hn 0 rfl rfl rfl rfl S78 (fun w hS => vv_move rfl) ?_
              refine dd_hn 0 rfl rfl rfl rfl S78 (fun w hS => vv_extract rfl rfl) ?_
              refine dd_hn 0 rfl rfl rfl rfl S78 (fun w hS => vv_extract rfl rfl) ?_
              have B79 := (Bx.gr Bw26 Gw27)
              refine dd_z [(1, b26)] rfl rfl rfl (ev_stM (cs' := kb x15.1) (vs := kb x15.1) (agg_26).siz rfl rfl rfl rfl rfl B79 rfl rfl) ⟨fun _ => tk0, trivial⟩ ?_
              rintro _ w28 ⟨Bw28, Mw28⟩
              have z80 := Mw28.size
              refine ⟨Kz.ofMd Mw28, ?_⟩
              have S81 := (Kp.md S78 Mw28)
              refine dd_hn 0 rfl rfl rfl rfl S81 (fun w hS => vv_assign rfl) ?_
              refine sd_nil ?_
              have K_82 : Kz [] w9 w28 := (Kz.md (Kz.gr (Kz.gr (Kz.gr (Kz.refl _ _) Gw22) Gw26) Gw27) Mw28)
              refine ⟨rfl, ⟨x15.1, x15.2, b26⟩, ?_, hm, Bw28, (by omega), K_82⟩
              repeat' first | exact trivial | refine ⟨rfl, ?_⟩
        ·
          replace hm := ite_f (of_decide_eq_false c3) hm
          refine sw_exit ?_
          refine then_x ?_
          refine then_x ?_
          refine block_x ?_
          refine then_n ?_
          refine sw_seq ?_
          -- region 13 ref.go:516
          refine sw_region [(0, 0), (1, 0), (2, 0)] rfl rfl rfl ?_
          refine sd_vv rfl rfl rfl (vv_buildZ bz_26) ?_
          have B83 := (Bx.kz (Bx.gr (Bx.gr Bw4 Gw5) Gw7) Kw9)
          refine sd_ev rfl rfl rfl (ev_stM (cs' := kb k0) (vs := kb k0) (agg_26).siz rfl rfl rfl rfl rfl B83 rfl rfl) ?_
          rintro _ w29 ⟨Bw29, Mw29⟩
          have z84 := Mw29.size
          refine sd_vv rfl rfl rfl (vv_assign rfl) ?_
          refine sd_done ?_
          refine sw_ret ?_
          have X85 : Gr w w29 := (Gr.md (Gr.kz X25 Kw9) Mw29)
          have hr := Option.some.inj hm
          subst hr
          refine ⟨_, _, rfl, res_2 rfl (rv_cellW agg_26 rfl Bw29 rfl) (rv_tmp rfl), ?_⟩
          exact ⟨rfl, X85⟩
end Go.Proofs.Ytecempahccgijaa.Mx
