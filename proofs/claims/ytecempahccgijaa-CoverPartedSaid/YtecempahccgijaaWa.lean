/- Walks that follow mirrors: Wa. Printed by mx.py. -/
import Derived.Test.YtecempahccgijaaWz
import Derived.Test.YtecempahccgijaaWaM
set_option linter.unusedVariables false
set_option linter.unusedSimpArgs false
set_option maxRecDepth 100000
namespace Go.Proofs.Ytecempahccgijaa.Mx
open Go Go.RowKit Go.Sx
theorem zv_28 : ZV Try.prog 28 (.agg [.slice none 0 0, .int .u64 0, .slice none 0 0, .int .u8 0, .int .u8 0, .int .u8 0, .int .u8 0, .int .u8 0, .int .u8 0, .int .u8 0, .int .u8 0, .int .u8 0, .int .u8 0, .int .u8 0, .int .u8 0, .int .u8 0, .int .u8 0, .int .u8 0, .int .u8 0, .int .u8 0, .int .u8 0, .int .u8 0, .int .u8 0, .int .u8 0, .int .u8 0, .int .u8 0, .int .u8 0, .int .u8 0, .int .u8 0, .int .u8 0, .int .u8 0, .int .u8 0, .int .u8 0, .int .u8 0, .int .u8 0].toArray) := fun _ => by kernel_rfl
theorem en_33 : En Try.prog 33 := fun _ _ => by kernel_rfl
theorem one_22 : One Try.prog 22 := fun _ => ⟨by kernel_rfl, by kernel_rfl⟩
theorem one_24 : One Try.prog 24 := fun _ => ⟨by kernel_rfl, by kernel_rfl⟩
theorem bs_28 : BS Try.prog 28 (fun i => [(0, 1), (1, 1), (2, 1), (3, 16), (19, 16)][i]?) [.slice none 0 0, .int .u64 0, .slice none 0 0, .int .u8 0, .int .u8 0, .int .u8 0, .int .u8 0, .int .u8 0, .int .u8 0, .int .u8 0, .int .u8 0, .int .u8 0, .int .u8 0, .int .u8 0, .int .u8 0, .int .u8 0, .int .u8 0, .int .u8 0, .int .u8 0, .int .u8 0, .int .u8 0, .int .u8 0, .int .u8 0, .int .u8 0, .int .u8 0, .int .u8 0, .int .u8 0, .int .u8 0, .int .u8 0, .int .u8 0, .int .u8 0, .int .u8 0, .int .u8 0, .int .u8 0, .int .u8 0] := bs_mk Try.underlying28 zv_28 ⟨rfl, (one_22).siz, rfl, (one_23).siz, rfl, (one_24).siz, rfl, (agg_26).siz, rfl, (agg_26).siz, trivial⟩
theorem agg_28 : Agg Try.prog 28 35 := fun _ => ⟨by kernel_rfl, by kernel_rfl⟩
theorem fa_28_0 : FA Try.prog 28 0 0 := fun _ _ _ => by kernel_rfl
theorem en_87 : En Try.prog 87 := fun _ _ => by kernel_rfl
theorem zv_108 : ZV Try.prog 108 (.agg [.int .i64 0, .int .i64 0, .int .u8 0, .int .u8 0, .int .u8 0, .int .u8 0, .int .u8 0, .int .u8 0, .int .u8 0, .int .u8 0, .int .u8 0, .int .u8 0, .int .u8 0, .int .u8 0, .int .u8 0, .int .u8 0, .int .u8 0, .int .u8 0].toArray) := fun _ => by kernel_rfl
theorem bs_108 : BS Try.prog 108 (fun i => [(0, 2), (2, 16)][i]?) [.int .i64 0, .int .i64 0, .int .u8 0, .int .u8 0, .int .u8 0, .int .u8 0, .int .u8 0, .int .u8 0, .int .u8 0, .int .u8 0, .int .u8 0, .int .u8 0, .int .u8 0, .int .u8 0, .int .u8 0, .int .u8 0, .int .u8 0, .int .u8 0] := bs_mk Try.underlying108 zv_108 ⟨rfl, (agg_47).siz, rfl, (agg_26).siz, trivial⟩
theorem agg_108 : Agg Try.prog 108 18 := fun _ => ⟨by kernel_rfl, by kernel_rfl⟩
theorem bsl_22_1 : BSl Try.prog 22 1 108 18 [.int .i64 0, .int .i64 0, .int .u8 0, .int .u8 0, .int .u8 0, .int .u8 0, .int .u8 0, .int .u8 0, .int .u8 0, .int .u8 0, .int .u8 0, .int .u8 0, .int .u8 0, .int .u8 0, .int .u8 0, .int .u8 0, .int .u8 0, .int .u8 0] := bsl_mk Try.underlying22 (agg_108).siz zv_108 rfl rfl (by kernel_rfl)
theorem apt_22 : ApT Try.prog 22 108 18 32 := apt_mk Try.underlying22 rfl (by kernel_rfl)
theorem fa_28_1 : FA Try.prog 28 1 1 := fun _ _ _ => by kernel_rfl
theorem fa_28_2 : FA Try.prog 28 2 2 := fun _ _ _ => by kernel_rfl
theorem fa_28_3 : FA Try.prog 28 3 3 := fun _ _ _ => by kernel_rfl
theorem eqc_26 : EqC Try.prog 2 26 [.u8, .u8, .u8, .u8, .u8, .u8, .u8, .u8, .u8, .u8, .u8, .u8, .u8, .u8, .u8, .u8] := eqc_array (ks := [.u8]) Try.underlying26 (infoE (by kernel_rfl)).choose_spec (by kernel_rfl) agg_26 eqc_5
theorem eqt_26 : EqT Try.prog 26 [.u8, .u8, .u8, .u8, .u8, .u8, .u8, .u8, .u8, .u8, .u8, .u8, .u8, .u8, .u8, .u8] := ⟨by kernel_rfl, agg_26, 2, by decide, eqc_26⟩
theorem fa_108_0 : FA Try.prog 108 0 0 := fun _ _ _ => by kernel_rfl
theorem en_97 : En Try.prog 97 := fun _ _ => by kernel_rfl
theorem en_143 : En Try.prog 143 := fun _ _ => by kernel_rfl
theorem en_98 : En Try.prog 98 := fun _ _ => by kernel_rfl
theorem fa_108_1 : FA Try.prog 108 1 2 := fun _ _ _ => by kernel_rfl
theorem en_100 : En Try.prog 100 := fun _ _ => by kernel_rfl
theorem fa_28_4 : FA Try.prog 28 4 19 := fun _ _ _ => by kernel_rfl
theorem zv_74 : ZV Try.prog 74 (.agg [.int .i64 0, .slice none 0 0, .int .u64 0, .int .u64 0].toArray) := fun _ => by kernel_rfl
theorem agg_72 : Agg Try.prog 72 2 := fun _ => ⟨by kernel_rfl, by kernel_rfl⟩
theorem bs_74 : BS Try.prog 74 (fun i => [(0, 1), (1, 1), (2, 2)][i]?) [.int .i64 0, .slice none 0 0, .int .u64 0, .int .u64 0] := bs_mk Try.underlying74 zv_74 ⟨rfl, (one_3).siz, rfl, (one_70).siz, rfl, (agg_72).siz, trivial⟩
theorem en_92 : En Try.prog 92 := fun _ _ => by kernel_rfl
theorem en_82 : En Try.prog 82 := fun _ _ => by kernel_rfl
theorem one_188 : One Try.prog 188 := fun _ => ⟨by kernel_rfl, by kernel_rfl⟩
theorem en_78 : En Try.prog 78 := fun _ _ => by kernel_rfl
theorem bs_47 : BS Try.prog 47 (fun i => [(0, 1), (1, 1)][i]?) [.int .i64 0, .int .i64 0] := bs_mk Try.underlying47 zv_47 ⟨rfl, (one_3).siz, rfl, (one_3).siz, trivial⟩
theorem bs_81 : BS Try.prog 81 (fun i => [(0, 1), (1, 1), (2, 16)][i]?) [.int .i64 0, .int .i64 0, .int .u8 0, .int .u8 0, .int .u8 0, .int .u8 0, .int .u8 0, .int .u8 0, .int .u8 0, .int .u8 0, .int .u8 0, .int .u8 0, .int .u8 0, .int .u8 0, .int .u8 0, .int .u8 0, .int .u8 0, .int .u8 0] := bs_mk Try.underlying81 zv_81 ⟨rfl, (one_3).siz, rfl, (one_3).siz, rfl, (agg_26).siz, trivial⟩
theorem bsl_70_1 : BSl Try.prog 70 1 81 18 [.int .i64 0, .int .i64 0, .int .u8 0, .int .u8 0, .int .u8 0, .int .u8 0, .int .u8 0, .int .u8 0, .int .u8 0, .int .u8 0, .int .u8 0, .int .u8 0, .int .u8 0, .int .u8 0, .int .u8 0, .int .u8 0, .int .u8 0, .int .u8 0] := bsl_mk Try.underlying70 (agg_81).siz zv_81 rfl rfl (by kernel_rfl)
theorem apt_70 : ApT Try.prog 70 81 18 32 := apt_mk Try.underlying70 rfl (by kernel_rfl)
theorem en_129 : En Try.prog 129 := fun _ _ => by kernel_rfl
theorem en_109 : En Try.prog 109 := fun _ _ => by kernel_rfl
theorem zv_4 : ZV Try.prog 4 (.bool false) := fun _ => by kernel_rfl
theorem one_4 : One Try.prog 4 := fun _ => ⟨by kernel_rfl, by kernel_rfl⟩
theorem en_111 : En Try.prog 111 := fun _ _ => by kernel_rfl
theorem en_148 : En Try.prog 148 := fun _ _ => by kernel_rfl
theorem en_110 : En Try.prog 110 := fun _ _ => by kernel_rfl
theorem fa_45_2 : FA Try.prog 45 2 2 := fun _ _ _ => by kernel_rfl
theorem fa_45_3 : FA Try.prog 45 3 3 := fun _ _ _ => by kernel_rfl
theorem zv_43 : ZV Try.prog 43 (.agg [.int .u64 0, .int .u64 0, .int .u64 0].toArray) := fun _ => by kernel_rfl
theorem bs_43 : BS Try.prog 43 (fun i => [(0, 1), (1, 1), (2, 1)][i]?) [.int .u64 0, .int .u64 0, .int .u64 0] := bs_mk Try.underlying43 zv_43 ⟨rfl, (one_23).siz, rfl, (one_23).siz, rfl, (one_23).siz, trivial⟩
theorem eqt_43 : EqT Try.prog 43 [.u64, .u64, .u64] := ⟨by kernel_rfl, agg_43, 2, by decide, eqc_43⟩
theorem en_118 : En Try.prog 118 := fun _ _ => by kernel_rfl

set_option maxHeartbeats 2000000 in
theorem cover_Check_w (p0 : TScheme)  (r : Int) (hm : cover_Check p0 = some r) (w : World)   :
    Calls Try.prog 33 [.agg (TScheme.cs p0).toArray].toArray w fun e w' => ∃ v, e = .returned v ∧ (v = .int .i64 r ∧ Gr w w') := by
  unfold cover_Check at hm
  refine calls_of_sw (R := fun v w' => v = .int .i64 r ∧ Gr w w') 12 Try.func33 rfl rfl rfl ?_
  refine sw_seq ?_
  -- region 0 cover.go:12
  refine sw_region [(0, 0), (1, 0)] rfl rfl rfl ?_
  refine sd_ev rfl rfl rfl (ev_box (cs := TScheme.cs p0) rfl rfl) ?_
  rintro _ w1 ⟨b1, rfl, hbw1, Bw1, Gw1⟩
  have z1 := Gw1.size
  have lt2 := Bw1.lt
  refine sd_vv rfl rfl rfl (vv_assign rfl) ?_
  refine sd_done ?_
  refine sw_seq ?_
  refine sw_seq ?_
  -- region 1 cover.go:13
  refine sw_region [(0, 0), (1, 0), (2, 0), (3, 0), (4, 0), (5, 0), (6, 0), (7, 0)] rfl rfl rfl ?_
  refine sd_vv rfl rfl rfl (vv_loadW agg_45 rfl Bw1 rfl) ?_
  have hb := bnd hm; clear hm; obtain ⟨x1, hx1, hm⟩ := hb
  refine sd_ev rfl rfl rfl (ev_call en_84 rfl (cover_treeOf_w p0 _ hx1 _)) ?_
  rintro _ w2 ⟨rfl, Gw2⟩
  have z3 := Gw2.size
  refine sd_vv rfl rfl rfl (vv_move rfl) ?_
  refine sd_vv rfl rfl rfl (vv_extract rfl rfl) ?_
  refine sd_vv rfl rfl rfl (vv_extract rfl rfl) ?_
  refine sd_ev rfl rfl rfl (ev_alloc (cs := Tcover_tree.cs (Tcover_tree.mk 0#8 0 0)) zv_134 rfl) ?_
  rintro _ w3 ⟨b3, rfl, hbw3, Bw3, Gw3⟩
  have z4 := Gw3.size
  have lt5 := Bw3.lt
  refine sd_ev rfl rfl rfl (ev_stM (cs' := Tcover_tree.cs x1.1) (vs := Tcover_tree.cs x1.1) (agg_134).siz rfl rfl rfl rfl rfl Bw3 rfl rfl) ?_
  rintro _ w4 ⟨Bw4, Mw4⟩
  have z6 := Mw4.size
  refine sd_vv rfl rfl rfl (vv_assign rfl) ?_
  refine sd_done ?_
  refine sw_seq ?_
  -- region 2 cover.go:13
  refine sw_region [(0, 0), (1, 0)] rfl rfl rfl ?_
  refine sd_vv rfl rfl rfl (vv_move rfl) ?_
  refine sd_vv rfl rfl rfl (vv_not rfl) ?_
  refine sd_done ?_
  refine sw_cond rfl (fun c1 => ?_) (fun c1 => ?_)
  ·
    replace hm := cnd_t c1 hm
    refine sw_seq ?_
    -- region 3 cover.go:14
    refine sw_region [(0, 0)] rfl rfl rfl ?_
    refine sd_vv rfl rfl rfl (vv_assign rfl) ?_
    refine sd_done ?_
    refine sw_ret ?_
    refine then_r ?_
    have X7 : Gr w w4 := (Gr.md (Gr.trans (Gr.trans (Gr.trans (Gr.refl w) Gw1) Gw2) Gw3) Mw4)
    have hr := Option.some.inj hm
    subst hr
    refine ⟨_, _, rfl, res_1 rfl (rv_tmp rfl), ?_⟩
    exact ⟨rfl, X7⟩
  ·
    replace hm := cnd_f c1 hm
    refine sw_skip ?_
    refine then_n ?_
    refine sw_seq ?_
    -- region 4 cover.go:16
    refine sw_region [(0, 0)] rfl rfl rfl ?_
    refine sd_vv rfl rfl rfl (vv_assign rfl) ?_
    refine sd_done ?_
    refine sw_ret ?_
    have X8 : Gr w w4 := (Gr.md (Gr.trans (Gr.trans (Gr.trans (Gr.refl w) Gw1) Gw2) Gw3) Mw4)
    have hr := Option.some.inj hm
    subst hr
    refine ⟨_, _, rfl, res_1 rfl (rv_tmp rfl), ?_⟩
    exact ⟨rfl, X8⟩

set_option maxHeartbeats 2000000 in
theorem cover_Seal_w (p0 : W2) (p1 : TScheme) (p2 : List TSubset) (p3 : W2) (vp2 : Value) (zp2 gp2 op2 : Nat) (r : THeader × Int) (hm : cover_Seal p0 p1 p2 p3 = some r) (w : World) (hp2 : Rd w zp2 gp2 op2 2 vp2 (p2.map TSubset.cs))  :
    Calls Try.prog 38 [kv p0, .agg (TScheme.cs p1).toArray, vp2, kv p3].toArray w fun e w' => ∃ v, e = .returned v ∧ (∃ (ur0_0 : Value) (zr0_0 : Nat) (gr0_0 : Nat) (ur0_2 : Value) (zr0_2 : Nat) (gr0_2 : Nat), v = .tuple [.agg (THeader.cs r.1 ur0_0 ur0_2).toArray, .int .i64 r.2].toArray ∧ Own w' zr0_0 gr0_0 108 18 ur0_0 (r.1.Items.map TItem.cs) ∧ Hdn (zr0_0 = 0 ∨ w.heap.size ≤ gr0_0) ∧ Own w' zr0_2 gr0_2 72 2 ur0_2 (r.1.Points.map TPoint.cs) ∧ Hdn (zr0_2 = 0 ∨ w.heap.size ≤ gr0_2) ∧ Hdn (zr0_2 = 0 ∨ zr0_0 = 0 ∨ gr0_2 ≠ gr0_0) ∧ Gr w w') := by
  have lt1 := hp2.lth
  unfold cover_Seal at hm
  refine calls_of_sw (R := fun v w' => ∃ (ur0_0 : Value) (zr0_0 : Nat) (gr0_0 : Nat) (ur0_2 : Value) (zr0_2 : Nat) (gr0_2 : Nat), v = .tuple [.agg (THeader.cs r.1 ur0_0 ur0_2).toArray, .int .i64 r.2].toArray ∧ Own w' zr0_0 gr0_0 108 18 ur0_0 (r.1.Items.map TItem.cs) ∧ Hdn (zr0_0 = 0 ∨ w.heap.size ≤ gr0_0) ∧ Own w' zr0_2 gr0_2 72 2 ur0_2 (r.1.Points.map TPoint.cs) ∧ Hdn (zr0_2 = 0 ∨ w.heap.size ≤ gr0_2) ∧ Hdn (zr0_2 = 0 ∨ zr0_0 = 0 ∨ gr0_2 ≠ gr0_0) ∧ Gr w w') 60 Try.func38 rfl rfl rfl ?_
  refine sw_seq ?_
  -- region 0 cover.go:281
  refine sw_region [(0, 0), (1, 0), (2, 0), (3, 0), (4, 0)] rfl rfl rfl ?_
  refine sd_ev rfl rfl rfl (ev_box (cs := kb p0) rfl rfl) ?_
  rintro _ w1 ⟨b1, rfl, hbw1, Bw1, Gw1⟩
  have z2 := Gw1.size
  have lt3 := Bw1.lt
  refine sd_ev rfl rfl rfl (ev_box (cs := TScheme.cs p1) rfl rfl) ?_
  rintro _ w2 ⟨b2, rfl, hbw2, Bw2, Gw2⟩
  have z4 := Gw2.size
  have lt5 := Bw2.lt
  refine sd_ev rfl rfl rfl (ev_box (cs := kb p3) rfl rfl) ?_
  rintro _ w3 ⟨b3, rfl, hbw3, Bw3, Gw3⟩
  have z6 := Gw3.size
  have lt7 := Bw3.lt
  refine sd_ev rfl rfl rfl (ev_alloc (cs := THeader.cs (THeader.mk [] 0#64 [] k0 k0) (.slice none 0 0) (.slice none 0 0)) zv_28 rfl) ?_
  rintro _ w4 ⟨b4, rfl, hbw4, Bw4, Gw4⟩
  have z8 := Gw4.size
  have lt9 := Bw4.lt
  refine sd_vv rfl rfl rfl (vv_assign rfl) ?_
  refine sd_done ?_
  refine sw_seq ?_
  refine sw_seq ?_
  -- region 1 cover.go:282
  refine sw_region [(0, 0), (1, 0), (2, 0)] rfl rfl rfl ?_
  have B10 := (Bx.gr (Bx.gr Bw2 Gw3) Gw4)
  refine sd_vv rfl rfl rfl (vv_loadW agg_45 rfl B10 rfl) ?_
  have hb := bnd hm; clear hm; obtain ⟨x1, hx1, hm⟩ := hb
  refine sd_ev rfl rfl rfl (ev_call en_33 rfl (cover_Check_w p1 _ hx1 _)) ?_
  rintro _ w5 ⟨rfl, Gw5⟩
  have z11 := Gw5.size
  refine sd_vv rfl rfl rfl (vv_assign rfl) ?_
  refine sd_done ?_
  refine sw_seq ?_
  -- region 2 cover.go:282
  refine sw_region [(0, 0), (1, 0)] rfl rfl rfl ?_
  refine sd_vv rfl rfl rfl (vv_move rfl) ?_
  refine sd_vv rfl rfl rfl (vv_neq (a := x1) (b := 0) rfl rfl) ?_
  refine sd_done ?_
  refine sw_cond rfl (fun c1 => ?_) (fun c1 => ?_)
  ·
    replace hm := ite_t (of_decide_eq_true c1) hm
    refine sw_seq ?_
    -- region 3 cover.go:283
    refine sw_region [(0, 0), (1, 0), (2, 0), (3, 0)] rfl rfl rfl ?_
    refine sd_vv rfl rfl rfl (vv_build (cs := THeader.cs (THeader.mk [] 0#64 [] k0 k0) (.slice none 0 0) (.slice none 0 0)) bs_28 rfl (by kernel_rfl)) ?_
    refine sd_vv rfl rfl rfl (vv_move rfl) ?_
    have B12 := (Bx.gr Bw4 Gw5)
    refine sd_ev rfl rfl rfl (ev_stM (cs' := THeader.cs (THeader.mk [] 0#64 [] k0 k0) (.slice none 0 0) (.slice none 0 0)) (vs := THeader.cs (THeader.mk [] 0#64 [] k0 k0) (.slice none 0 0) (.slice none 0 0)) (agg_28).siz rfl rfl rfl rfl (THeader.cs_ones _ _ _ rfl rfl) B12 rfl rfl) ?_
    rintro _ w6 ⟨Bw6, Mw6⟩
    have z13 := Mw6.size
    refine sd_vv rfl rfl rfl (vv_assign rfl) ?_
    refine sd_done ?_
    refine sw_ret ?_
    refine then_r ?_
    have X14 : Gr w w6 := (Gr.md (Gr.trans (Gr.trans (Gr.trans (Gr.trans (Gr.trans (Gr.refl w) Gw1) Gw2) Gw3) Gw4) Gw5) Mw6)
    have hr := Option.some.inj hm
    subst hr
    refine ⟨_, _, rfl, res_2 rfl (rv_cellW agg_28 rfl Bw6 rfl) (rv_tmp rfl), ?_⟩
    exact ⟨(.slice none 0 0), 0, 0, (.slice none 0 0), 0, 0, rfl, (own_nil _ 0 108 18), ⟨.inl rfl⟩, (own_nil _ 0 72 2), ⟨.inl rfl⟩, ⟨(.inl rfl)⟩, X14⟩
  ·
    replace hm := ite_f (of_decide_eq_false c1) hm
    refine sw_skip ?_
    refine then_n ?_
    refine sw_seq ?_
    refine sw_seq ?_
    -- region 4 cover.go:285
    refine sw_region [(0, 0), (1, 0), (2, 0)] rfl rfl rfl ?_
    refine sd_vv rfl rfl rfl (vv_move rfl) ?_
    have B15 := (Rd.gr (Rd.gr (Rd.gr (Rd.gr (Rd.gr hp2 Gw1) Gw2) Gw3) Gw4) Gw5)
    refine sd_vv rfl rfl rfl (vv_lenT (l := p2) (c := TSubset.cs) Try.underlying48 rfl B15) ?_
    refine sd_vv rfl rfl rfl (vv_gtr (a := (p2.length : Int)) (b := 64) rfl rfl) ?_
    refine sd_done ?_
    refine sw_cond rfl (fun c2 => ?_) (fun c2 => ?_)
    ·
      replace hm := ite_t (of_decide_eq_true c2) hm
      refine sw_seq ?_
      -- region 5 cover.go:286
      refine sw_region [(0, 0), (1, 0), (2, 0)] rfl rfl rfl ?_
      refine sd_vv rfl rfl rfl (vv_build (cs := THeader.cs (THeader.mk [] 0#64 [] k0 k0) (.slice none 0 0) (.slice none 0 0)) bs_28 rfl (by kernel_rfl)) ?_
      have B16 := (Bx.gr Bw4 Gw5)
      refine sd_ev rfl rfl rfl (ev_stM (cs' := THeader.cs (THeader.mk [] 0#64 [] k0 k0) (.slice none 0 0) (.slice none 0 0)) (vs := THeader.cs (THeader.mk [] 0#64 [] k0 k0) (.slice none 0 0) (.slice none 0 0)) (agg_28).siz rfl rfl rfl rfl (THeader.cs_ones _ _ _ rfl rfl) B16 rfl rfl) ?_
      rintro _ w7 ⟨Bw7, Mw7⟩
      have z17 := Mw7.size
      refine sd_vv rfl rfl rfl (vv_assign rfl) ?_
      refine sd_done ?_
      refine sw_ret ?_
      refine then_r ?_
      have X18 : Gr w w7 := (Gr.md (Gr.trans (Gr.trans (Gr.trans (Gr.trans (Gr.trans (Gr.refl w) Gw1) Gw2) Gw3) Gw4) Gw5) Mw7)
      have hr := Option.some.inj hm
      subst hr
      refine ⟨_, _, rfl, res_2 rfl (rv_cellW agg_28 rfl Bw7 rfl) (rv_tmp rfl), ?_⟩
      exact ⟨(.slice none 0 0), 0, 0, (.slice none 0 0), 0, 0, rfl, (own_nil _ 0 108 18), ⟨.inl rfl⟩, (own_nil _ 0 72 2), ⟨.inl rfl⟩, ⟨(.inl rfl)⟩, X18⟩
    ·
      replace hm := ite_f (of_decide_eq_false c2) hm
      refine sw_skip ?_
      refine then_n ?_
      refine sw_seq ?_
      -- region 6 cover.go:288
      refine sw_region [(0, 0), (1, 0), (2, 0), (3, 0), (4, 0), (5, 0), (6, 0), (7, 0), (8, 0)] rfl rfl rfl ?_
      have B19 := (Bx.gr B10 Gw5)
      refine sd_vv rfl rfl rfl (vv_loadW agg_45 rfl B19 rfl) ?_
      refine sd_vv rfl rfl rfl (vv_move rfl) ?_
      have hb := bnd hm; clear hm; obtain ⟨x2, hx2, hm⟩ := hb
      refine sd_ev rfl rfl rfl (ev_call en_74 rfl (cover_enter_w p1 p2 _ _ _ _ _ hx2 _ B15)) ?_
      rintro _ w8 ⟨rfl, Gw8⟩
      have z20 := Gw8.size
      refine sd_vv rfl rfl rfl (vv_move rfl) ?_
      refine sd_vv rfl rfl rfl (vv_extract rfl rfl) ?_
      refine sd_vv rfl rfl rfl (vv_extract rfl rfl) ?_
      refine sd_ev rfl rfl rfl (ev_alloc (cs := Tcover_tree.cs (Tcover_tree.mk 0#8 0 0)) zv_134 rfl) ?_
      rintro _ w9 ⟨b9, rfl, hbw9, Bw9, Gw9⟩
      have z21 := Gw9.size
      have lt22 := Bw9.lt
      refine sd_ev rfl rfl rfl (ev_stM (cs' := Tcover_tree.cs x2.1) (vs := Tcover_tree.cs x2.1) (agg_134).siz rfl rfl rfl rfl rfl Bw9 rfl rfl) ?_
      rintro _ w10 ⟨Bw10, Mw10⟩
      have z23 := Mw10.size
      refine sd_vv rfl rfl rfl (vv_assign rfl) ?_
      refine sd_done ?_
      refine sw_seq ?_
      refine sw_seq ?_
      -- region 7 cover.go:289
      refine sw_region [(0, 0), (1, 0)] rfl rfl rfl ?_
      refine sd_vv rfl rfl rfl (vv_move rfl) ?_
      refine sd_vv rfl rfl rfl (vv_neq (a := x2.2) (b := 0) rfl rfl) ?_
      refine sd_done ?_
      refine sw_cond rfl (fun c3 => ?_) (fun c3 => ?_)
      ·
        replace hm := ite_t (of_decide_eq_true c3) hm
        refine sw_seq ?_
        -- region 8 cover.go:290
        refine sw_region [(0, 0), (1, 0), (2, 0), (3, 0)] rfl rfl rfl ?_
        refine sd_vv rfl rfl rfl (vv_build (cs := THeader.cs (THeader.mk [] 0#64 [] k0 k0) (.slice none 0 0) (.slice none 0 0)) bs_28 rfl (by kernel_rfl)) ?_
        refine sd_vv rfl rfl rfl (vv_move rfl) ?_
        have B24 := (Bx.md (Bx.gr (Bx.gr (Bx.gr Bw4 Gw5) Gw8) Gw9) Mw10)
        refine sd_ev rfl rfl rfl (ev_stM (cs' := THeader.cs (THeader.mk [] 0#64 [] k0 k0) (.slice none 0 0) (.slice none 0 0)) (vs := THeader.cs (THeader.mk [] 0#64 [] k0 k0) (.slice none 0 0) (.slice none 0 0)) (agg_28).siz rfl rfl rfl rfl (THeader.cs_ones _ _ _ rfl rfl) B24 rfl rfl) ?_
        rintro _ w11 ⟨Bw11, Mw11⟩
        have z25 := Mw11.size
        refine sd_vv rfl rfl rfl (vv_assign rfl) ?_
        refine sd_done ?_
        refine sw_ret ?_
        refine then_r ?_
        have X26 : Gr w w11 := (Gr.md (Gr.md (Gr.trans (Gr.trans (Gr.trans (Gr.trans (Gr.trans (Gr.trans (Gr.trans (Gr.refl w) Gw1) Gw2) Gw3) Gw4) Gw5) Gw8) Gw9) Mw10) Mw11)
        have hr := Option.some.inj hm
        subst hr
        refine ⟨_, _, rfl, res_2 rfl (rv_cellW agg_28 rfl Bw11 rfl) (rv_tmp rfl), ?_⟩
        exact ⟨(.slice none 0 0), 0, 0, (.slice none 0 0), 0, 0, rfl, (own_nil _ 0 108 18), ⟨.inl rfl⟩, (own_nil _ 0 72 2), ⟨.inl rfl⟩, ⟨(.inl rfl)⟩, X26⟩
      ·
        replace hm := ite_f (of_decide_eq_false c3) hm
        refine sw_skip ?_
        refine then_n ?_
        refine sw_seq ?_
        -- region 9 cover.go:292
        refine sw_region [(0, 0), (1, 0), (2, 0), (3, 0), (4, 0)] rfl rfl rfl ?_
        have B27 := (Bx.md (Bx.gr (Bx.gr (Bx.gr (Bx.gr Bw3 Gw4) Gw5) Gw8) Gw9) Mw10)
        refine sd_vv rfl rfl rfl (vv_loadW agg_26 rfl B27 rfl) ?_
        refine sd_ev rfl rfl rfl (ev_call en_86 rfl (derive_c p3 (un8 53#8) (un8_nn _) (un8_le _) 0#64 _)) ?_
        rintro _ w12 ⟨rfl, Gw12⟩
        have z28 := Gw12.size
        refine sd_vv rfl rfl rfl (vv_build (cs := THeader.cs (THeader.mk [] 0#64 [] k0 (drv p3 (un8 53#8) 0#64)) (.slice none 0 0) (.slice none 0 0)) bs_28 rfl (fill_M rfl rfl rfl (by kernel_rfl))) ?_
        refine sd_ev rfl rfl rfl (ev_alloc (cs := THeader.cs (THeader.mk [] 0#64 [] k0 k0) (.slice none 0 0) (.slice none 0 0)) zv_28 rfl) ?_
        rintro _ w13 ⟨b13, rfl, hbw13, Bw13, Gw13⟩
        have z29 := Gw13.size
        have lt30 := Bw13.lt
        refine sd_ev rfl rfl rfl (ev_stM (cs' := THeader.cs (THeader.mk [] 0#64 [] k0 (drv p3 (un8 53#8) 0#64)) (.slice none 0 0) (.slice none 0 0)) (vs := THeader.cs (THeader.mk [] 0#64 [] k0 (drv p3 (un8 53#8) 0#64)) (.slice none 0 0) (.slice none 0 0)) (agg_28).siz rfl rfl rfl rfl (THeader.cs_ones _ _ _ rfl rfl) Bw13 rfl rfl) ?_
        rintro _ w14 ⟨Bw14, Mw14⟩
        have z31 := Mw14.size
        refine sd_done ?_
        refine sw_seq ?_
        refine sw_seq ?_
        -- region 10 cover.go:293
        refine sw_region [(0, 0), (1, 0), (2, 0)] rfl rfl rfl ?_
        refine sd_vv rfl rfl rfl (vv_move rfl) ?_
        have B32 := (Rd.md (Rd.gr (Rd.gr (Rd.md (Rd.gr (Rd.gr B15 Gw8) Gw9) Mw10 (tk1 ((pv_lt (A := (fun x => x ≠ b9)) lt1) : zp2 = 0 ∨ gp2 ≠ b9))) Gw12) Gw13) Mw14 (tk1 ((pv_lt (A := (fun x => x ≠ b13)) lt1) : zp2 = 0 ∨ gp2 ≠ b13)))
        refine sd_vv rfl rfl rfl (vv_lenT (l := p2) (c := TSubset.cs) Try.underlying48 rfl B32) ?_
        refine sd_vv rfl rfl rfl (vv_move rfl) ?_
        refine sd_done ?_
        refine sw_block ?_
        have X33 : Gr w w14 := (Gr.md (Gr.trans (Gr.trans (Gr.md (Gr.trans (Gr.trans (Gr.trans (Gr.trans (Gr.trans (Gr.trans (Gr.trans (Gr.refl w) Gw1) Gw2) Gw3) Gw4) Gw5) Gw8) Gw9) Mw10) Gw12) Gw13) Mw14)
        refine sw_loopD (α := Nat × Int × List TItem × Value × Nat × Nat) [15, 41, 42, 43, 44, 45, 46, 47, 48, 49, 50, 51, 52, 53, 54, 55, 56, 57, 58] (fun ⟨n1, a6, a7, vy8, zy8, gy8⟩ => [(41, .int .i64 a6)]) (fun ⟨n1, a6, a7, vy8, zy8, gy8⟩ wr => (fixN (cover_Seal_L1 p0 p2 p3 x2) n1 (a6, a7) = some r) ∧ Own wr zy8 gy8 108 18 vy8 (a7.map TItem.cs) ∧ Hdn (zy8 = 0 ∨ w14.heap.size ≤ gy8) ∧ Bx wr b13 28 (THeader.cs (THeader.mk a7 0#64 [] k0 (drv p3 (un8 53#8) 0#64)) vy8 (.slice none 0 0)) ∧ Kz [(1, b13)] w14 wr) (fun ⟨n1, a6, a7, vy8, zy8, gy8⟩ => n1) ⟨FUEL, 0, [], (.slice none 0 0), 0, 0⟩ ?_ ?_ ?_
        · repeat' first | exact trivial | refine ⟨rfl, ?_⟩
        · exact ⟨hm, (own_nil _ 0 108 18), ⟨(.inl rfl)⟩, Bw14, Kz.refl _ _⟩
        · clear hm; rintro ⟨n1, a6, a7, vy8, zy8, gy8⟩ w15 ⟨hm, Fw15_0, Fw15_1, Fw15_2, Kw15⟩
          have z34 := Kw15.size
          have lt35 := Fw15_0.lth
          have lt36 := Fw15_2.lt
          have hb := fix_succ hm; clear hm; obtain ⟨n1, rfl, hm⟩ := hb
          generalize hrec1 : fixN (cover_Seal_L1 p0 p2 p3 x2) n1 = rec1 at hm
          unfold cover_Seal_L1 at hm
          try dsimp only at hm
          refine sw_seq ?_
          -- region 11 cover.go:293
          refine sw_region [(0, 0)] rfl rfl rfl ?_
          refine sd_vv rfl rfl rfl (vv_lss (a := a6) (b := (p2.length : Int)) rfl rfl) ?_
          refine sd_done ?_
          refine sw_seq ?_
          refine sw_cond rfl (fun c4 => ?_) (fun c4 => ?_)
          ·
            replace hm := ite_t (of_decide_eq_true c4) hm
            refine sw_skip ?_
            refine then_n ?_
            refine sw_seq ?_
            refine sw_block ?_
            refine sw_seq ?_
            -- region 12 cover.go:293
            refine sw_region [(0, 0), (1, 0), (2, 0), (3, 0)] rfl rfl rfl ?_
            have hb := bnd hm; clear hm; obtain ⟨y9, hy9, hm⟩ := hb
            have B37 := (Rd.kz B32 Kw15 (tk1 ((pv_lt (A := (fun x => x ≠ b13)) lt1) : zp2 = 0 ∨ gp2 ≠ b13)))
            refine sd_vv rfl rfl rfl (vv_ixT (i := a6) Try.underlying48 (agg_47).siz rfl B37 rfl hy9) ?_
            refine sd_vv rfl rfl rfl (vv_elWT agg_47 rfl B37 hy9 (by first | rfl | omega)) ?_
            refine sd_ev rfl rfl rfl (ev_alloc (cs := TSubset.cs (TSubset.mk 0 0)) zv_47 rfl) ?_
            rintro _ w16 ⟨b16, rfl, hbw16, Bw16, Gw16⟩
            have z38 := Gw16.size
            have lt39 := Bw16.lt
            refine sd_ev rfl rfl rfl (ev_stM (cs' := TSubset.cs y9) (vs := TSubset.cs y9) (agg_47).siz rfl rfl rfl rfl rfl Bw16 rfl rfl) ?_
            rintro _ w17 ⟨Bw17, Mw17⟩
            have z40 := Mw17.size
            refine sd_done ?_
            -- region 13 cover.go:294 DRAWS
            refine sw_drawN [([b13] ++ zf zy8 gy8), ([] ++ zf zy8 gy8)] [(13, [1])] (.leaf [(0, 10), (1, 11), (2, 10), (3, 10), (4, 10), (5, 10), (7, 10), (6, 0), (8, 0), (9, 10), (10, 0), (11, 0), (12, 10), (13, 0)]) (by kernel_rfl) (by kernel_rfl) rfl (by kernel_rfl) ?_
            intro w18 Gw18 zw18
            refine sdz_leaf ?_
            refine dd_hn 0 rfl rfl rfl rfl (Kp.refl ([b13] ++ zf zy8 gy8) w18) (fun w hS => vv_fieldAddr fa_28_0 rfl) ?_
            have B41 := (Bx.gr (Bx.md (Bx.gr Fw15_2 Gw16) Mw17) Gw18)
            refine dd_hn 1 rfl rfl rfl rfl (Kp.refl ([] ++ zf zy8 gy8) w18) (fun w hS => vv_load1 (v := vy8) one_22 rfl (Bx.kp B41 hS (tk1 ((pv_0 (A := (fun x => x ≠ b13)) Fw15_1) : zy8 = 0 ∨ gy8 ≠ b13))) rfl) ?_
            have B42 := (Bx.gr Bw17 Gw18)
            refine dd_hn 0 rfl rfl rfl rfl (Kp.refl ([b13] ++ zf zy8 gy8) w18) (fun w hS => vv_loadW agg_47 rfl (Bx.kp B42 hS (tk1 ((pv_lt (A := (fun x => x ≠ b16)) lt35) : zy8 = 0 ∨ gy8 ≠ b16))) rfl) ?_
            have B43 := (Bx.gr (Bx.md (Bx.gr (Bx.kz (Bx.md (Bx.gr (Bx.gr Bw10 Gw12) Gw13) Mw14) Kw15) Gw16) Mw17) Gw18)
            refine dd_hn 0 rfl rfl rfl rfl (Kp.refl ([b13] ++ zf zy8 gy8) w18) (fun w hS => vv_loadW agg_134 rfl (Bx.kp B43 hS (tk1 ((pv_0 (A := (fun x => x ≠ b9)) Fw15_1) : zy8 = 0 ∨ gy8 ≠ b9))) rfl) ?_
            have B44 := (Bx.gr (Bx.md (Bx.gr (Bx.kz (Bx.md (Bx.gr (Bx.gr (Bx.md (Bx.gr (Bx.gr (Bx.gr (Bx.gr (Bx.gr (Bx.gr Bw1 Gw2) Gw3) Gw4) Gw5) Gw8) Gw9) Mw10) Gw12) Gw13) Mw14) Kw15) Gw16) Mw17) Gw18)
            refine dd_hn 0 rfl rfl rfl rfl (Kp.refl ([b13] ++ zf zy8 gy8) w18) (fun w hS => vv_loadW agg_26 rfl (Bx.kp B44 hS (tk1 ((pv_0 (A := (fun x => x ≠ b1)) Fw15_1) : zy8 = 0 ∨ gy8 ≠ b1))) rfl) ?_
            refine dd_hn 0 rfl rfl rfl rfl (Kp.refl ([b13] ++ zf zy8 gy8) w18) (fun w hS => vv_loadW agg_47 rfl (Bx.kp B42 hS (tk1 ((pv_lt (A := (fun x => x ≠ b16)) lt35) : zy8 = 0 ∨ gy8 ≠ b16))) rfl) ?_
            have B45 := (Bx.gr (Bx.md (Bx.gr (Bx.kz (Bx.md (Bx.gr (Bx.gr B27 Gw12) Gw13) Mw14) Kw15) Gw16) Mw17) Gw18)
            refine dd_hn 0 rfl rfl rfl rfl (Kp.refl ([b13] ++ zf zy8 gy8) w18) (fun w hS => vv_loadW agg_26 rfl (Bx.kp B45 hS (tk1 ((pv_0 (A := (fun x => x ≠ b3)) Fw15_1) : zy8 = 0 ∨ gy8 ≠ b3))) rfl) ?_
            have hb := bnd hm; clear hm; obtain ⟨x10, hx10, hm⟩ := hb
            refine dd_z [] rfl rfl rfl (ev_call en_88 rfl (cover_tree_key_w x2.1 p0 y9 _ hx10 _)) ⟨fun _ => tk0, fun _ => tk0, trivial⟩ ?_
            rintro _ w19 ⟨rfl, Gw19⟩
            have z46 := Gw19.size
            refine ⟨Kz.ofGr Gw19, ?_⟩
            refine dd_z [] rfl rfl rfl (ev_call en_87 rfl (encr_c x10 p3 _)) ⟨fun _ => tk0, fun _ => tk0, trivial⟩ ?_
            rintro _ w20 ⟨rfl, Gw20⟩
            have z47 := Gw20.size
            refine ⟨Kz.ofGr Gw20, ?_⟩
            have S48 := (Kp.gr (Kp.gr (Kp.refl ([b13] ++ zf zy8 gy8) w18) Gw19) Gw20)
            refine dd_hn 0 rfl rfl rfl rfl S48 (fun w hS => vv_build (cs := TItem.cs (TItem.mk y9 (encr x10 p3))) bs_108 rfl (fill_M rfl rfl rfl (fill_M rfl rfl rfl (by kernel_rfl)))) ?_
            refine dd_z [] rfl rfl rfl (ev_litT [(TItem.mk y9 (encr x10 p3))] TItem.cs bsl_22_1 rfl rfl (ws_of rfl) rfl rfl rfl) ⟨fun _ => tk0, fun _ => tk0, trivial⟩ ?_
            rintro vw21 w21 ⟨gw21, hbw21, Ow21, Gw21⟩
            have z49 := Gw21.size
            have lt50 := Ow21.lth
            refine ⟨Kz.ofGr Gw21, ?_⟩
            have B51 := (Own.gr (Own.gr (Own.gr (Own.gr (Own.md (Own.gr Fw15_0 Gw16) Mw17 (tk1 ((pv_lt (A := (fun x => x ≠ b16)) lt35) : zy8 = 0 ∨ gy8 ≠ b16))) Gw18) Gw19) Gw20) Gw21)
            have hb := bnd hm; clear hm; obtain ⟨l11, hl11, hm⟩ := hb
            refine dd_z [(zy8, gy8)] rfl rfl rfl (ev_appT (l := a7) (m := [(TItem.mk y9 (encr x10 p3))]) (c := TItem.cs) apt_22 rfl rfl B51 (Own.rd Ow21) hl11 (by decide)) ⟨fun _ => (tk1 (tk0 : zy8 = 0 ∨ (gy8 = gy8 ∧ zy8 ≠ 0) ∨ w18.heap.size ≤ gy8)), fun _ => (tk1 (tk0 : zy8 = 0 ∨ (gy8 = gy8 ∧ zy8 ≠ 0) ∨ w18.heap.size ≤ gy8)), trivial⟩ ?_
            rintro vw22 w22 ⟨zw22, gw22, Ow22, Aw22, qw22, rw22⟩
            have z52 := Aw22.size
            refine ⟨Kz.ofKa Aw22, ?_⟩
            have S53 := (Kp.ka (Kp.gr S48 Gw21) Aw22 (tk1 (tk0 : zy8 = 0 ∨ (gy8 = gy8 ∧ zy8 ≠ 0) ∨ w18.heap.size ≤ gy8)))
            refine dd_hn 0 rfl rfl rfl rfl S53 (fun w hS => vv_fieldAddr fa_28_0 rfl) ?_
            have B54 := (Bx.ka (Bx.gr (Bx.gr (Bx.gr B41 Gw19) Gw20) Gw21) Aw22 (tk1 ((pv_0 (A := (fun x => x ≠ b13)) Fw15_1) : zy8 = 0 ∨ gy8 ≠ b13)))
            refine dd_z [(1, b13)] rfl rfl rfl (ev_st1 (cs' := THeader.cs (THeader.mk l11 0#64 [] k0 (drv p3 (un8 53#8) 0#64)) vw22 (.slice none 0 0)) (one_22).siz rfl rfl (Own.oneB Ow22) B54 rfl rfl) ⟨fun _ => tk0, nofun, trivial⟩ ?_
            rintro _ w23 ⟨Bw23, Mw23⟩
            have z55 := Mw23.size
            refine ⟨Kz.ofMd Mw23, ?_⟩
            refine sd_nil ?_
            refine block_n ?_
            refine then_n ?_
            -- region 14 cover.go:293
            refine sw_region [(0, 0), (1, 0)] rfl rfl rfl ?_
            refine sd_vv rfl rfl rfl (vv_add (k := .i64) (a := a6) (b := 1) rfl rfl) ?_
            refine sd_vv rfl rfl rfl (vv_move rfl) ?_
            refine sd_nil ?_
            have K_56 : Kz [(1, b13)] w14 w23 := (Kz.md (Kz.ka (Kz.gr (Kz.gr (Kz.gr (Kz.gr (Kz.md (Kz.gr Kw15 Gw16) Mw17) Gw18) Gw19) Gw20) Gw21) Aw22 (tk1 ((pv_0 (A := (fun x => w14.heap.size ≤ x)) Fw15_1) : zy8 = 0 ∨ w14.heap.size ≤ gy8))) Mw23)
            have B57 := (Own.md Ow22 Mw23 (tk1 ((pv_app (A := (fun x => x ≠ b13)) rw22 (pv_0 (A := (fun x => x ≠ b13)) Fw15_1)) : zw22 = 0 ∨ gw22 ≠ b13)))
            subst hrec1
            refine ⟨rfl, ⟨n1, w64 (a6 + 1), l11, vw22, zw22, gw22⟩, ?_, ⟨hm, B57, ⟨(pv_app (A := (fun x => w14.heap.size ≤ x)) rw22 (pv_0 (A := (fun x => w14.heap.size ≤ x)) Fw15_1))⟩, Bw23, K_56⟩, Nat.lt_succ_self _⟩
            repeat' first | exact trivial | refine ⟨rfl, ?_⟩
          ·
            replace hm := ite_f (of_decide_eq_false c4) hm
            refine sw_exit ?_
            refine then_x ?_
            refine then_x ?_
            refine block_x ?_
            refine then_n ?_
            refine sw_seq ?_
            -- region 15 cover.go:296
            refine sw_region [(0, 0), (1, 0), (2, 0)] rfl rfl rfl ?_
            refine sd_vv rfl rfl rfl (vv_loadW agg_28 rfl Fw15_2 rfl) ?_
            have B58 := (Bx.kz (Bx.md (Bx.gr (Bx.gr (Bx.md (Bx.gr (Bx.gr (Bx.gr Bw4 Gw5) Gw8) Gw9) Mw10) Gw12) Gw13) Mw14) Kw15)
            refine sd_ev rfl rfl rfl (ev_stM (cs' := THeader.cs (THeader.mk a7 0#64 [] k0 (drv p3 (un8 53#8) 0#64)) vy8 (.slice none 0 0)) (vs := THeader.cs (THeader.mk a7 0#64 [] k0 (drv p3 (un8 53#8) 0#64)) vy8 (.slice none 0 0)) (agg_28).siz rfl rfl rfl rfl (THeader.cs_ones _ _ _ (Own.oneB Fw15_0) rfl) B58 rfl rfl) ?_
            rintro _ w24 ⟨Bw24, Mw24⟩
            have z59 := Mw24.size
            refine sd_vv rfl rfl rfl (vv_assign rfl) ?_
            refine sd_done ?_
            refine sw_ret ?_
            have B60 := (Own.md Fw15_0 Mw24 (tk1 ((pv_0 (A := (fun x => x ≠ b4)) Fw15_1) : zy8 = 0 ∨ gy8 ≠ b4)))
            have X61 : Gr w w24 := (Gr.md (Gr.kz X33 Kw15) Mw24)
            have hr := Option.some.inj hm
            subst hr
            refine ⟨_, _, rfl, res_2 rfl (rv_cellW agg_28 rfl Bw24 rfl) (rv_tmp rfl), ?_⟩
            exact ⟨vy8, zy8, gy8, (.slice none 0 0), 0, 0, rfl, B60, ⟨(pv_0 (A := (fun x => w.heap.size ≤ x)) Fw15_1)⟩, (own_nil _ 0 72 2), ⟨.inl rfl⟩, ⟨(.inl rfl)⟩, X61⟩

set_option maxHeartbeats 2000000 in
theorem cover_Open_1_w (p0 : TItem) (p1 : Tcover_tree) (bp1 : Nat) (r : Bool) (hm : cover_Open_1 p0 p1 = some r) (w : World) (hbp1 : Bx w bp1 134 (Tcover_tree.cs p1))  :
    Calls Try.prog 97 [.agg (TItem.cs p0).toArray, .pointer (some ⟨bp1, 0, none⟩)].toArray w fun e w' => ∃ v, e = .returned v ∧ (v = .bool r ∧ Gr w w') := by
  have lt1 := hbp1.lt
  unfold cover_Open_1 at hm
  refine calls_of_sw (R := fun v w' => v = .bool r ∧ Gr w w') 9 Try.func97 rfl rfl rfl ?_
  refine sw_seq ?_
  -- region 0 cover.go:305
  refine sw_region [(0, 0), (1, 0)] rfl rfl rfl ?_
  refine sd_ev rfl rfl rfl (ev_box (cs := TItem.cs p0) rfl rfl) ?_
  rintro _ w1 ⟨b1, rfl, hbw1, Bw1, Gw1⟩
  have z2 := Gw1.size
  have lt3 := Bw1.lt
  refine sd_vv rfl rfl rfl (vv_assign rfl) ?_
  refine sd_done ?_
  refine sw_seq ?_
  -- region 1 cover.go:305
  refine sw_region [(0, 0), (1, 0), (2, 0), (3, 0), (4, 0), (5, 0)] rfl rfl rfl ?_
  have B4 := (Bx.gr hbp1 Gw1)
  refine sd_vv rfl rfl rfl (vv_loadW agg_134 rfl B4 rfl) ?_
  refine sd_vv rfl rfl rfl (vv_fieldAddr fa_108_0 rfl) ?_
  refine sd_vv rfl rfl rfl (vv_loadM (vs := TSubset.cs p0.Subset) agg_47 rfl Bw1 rfl rfl) ?_
  have hb := bnd hm; clear hm; obtain ⟨x1, hx1, hm⟩ := hb
  refine sd_ev rfl rfl rfl (ev_call en_79 rfl (cover_tree_subset_w p1 p0.Subset _ hx1 _)) ?_
  rintro _ w2 ⟨rfl, Gw2⟩
  have z5 := Gw2.size
  refine sd_vv rfl rfl rfl (vv_not rfl) ?_
  refine sd_vv rfl rfl rfl (vv_assign rfl) ?_
  refine sd_done ?_
  refine sw_ret ?_
  have X6 : Gr w w2 := (Gr.trans (Gr.trans (Gr.refl w) Gw1) Gw2)
  have hr := Option.some.inj hm
  subst hr
  refine ⟨_, _, rfl, res_1 rfl (rv_tmp rfl), ?_⟩
  exact ⟨rfl, X6⟩

set_option maxHeartbeats 2000000 in
theorem slices_IndexFunc_c205_cover_Open_1_w (p0 : List TItem) (p1_0 : Tcover_tree) (vp0 : Value) (zp0 gp0 op0 : Nat) (bp1_0 : Nat) (r : Int) (hm : slices_IndexFunc_c205_cover_Open_1 p0 p1_0 = some r) (w : World) (hp0 : Rd w zp0 gp0 op0 18 vp0 (p0.map TItem.cs)) (hbp1_0 : Bx w bp1_0 134 (Tcover_tree.cs p1_0))  :
    Calls Try.prog 143 [vp0, .func (.func 97) [].toArray [.pointer (some ⟨bp1_0, 0, none⟩)].toArray].toArray w fun e w' => ∃ v, e = .returned v ∧ (v = .int .i64 r ∧ Gr w w') := by
  have lt1 := hp0.lth
  have lt2 := hbp1_0.lt
  unfold slices_IndexFunc_c205_cover_Open_1 at hm
  refine calls_of_sw (R := fun v w' => v = .int .i64 r ∧ Gr w w') 19 Try.func143 rfl rfl rfl ?_
  refine sw_seq ?_
  -- region 0 slices.go:107
  refine sw_region [(0, 0)] rfl rfl rfl ?_
  refine sd_vv rfl rfl rfl (vv_assign rfl) ?_
  refine sd_done ?_
  refine sw_seq ?_
  refine sw_seq ?_
  -- region 1 slices.go:108
  refine sw_region [(0, 0), (1, 0), (2, 0)] rfl rfl rfl ?_
  refine sd_vv rfl rfl rfl (vv_move rfl) ?_
  refine sd_vv rfl rfl rfl (vv_lenT (l := p0) (c := TItem.cs) Try.underlying22 rfl hp0) ?_
  refine sd_vv rfl rfl rfl (vv_move rfl) ?_
  refine sd_done ?_
  refine sw_block ?_
  refine sw_loopD (α := Nat × Int) [4, 5, 8, 9, 10, 11, 12, 13, 14, 15, 16, 17, 18] (fun ⟨n1, a2⟩ => [(4, .int .i64 0), (8, .int .i64 a2)]) (fun ⟨n1, a2⟩ wr => (fixN (slices_IndexFunc_c205_cover_Open_1_L1 p0 p1_0) n1 a2 = some r) ∧ Kz [] w wr) (fun ⟨n1, a2⟩ => n1) ⟨FUEL, 0⟩ ?_ ?_ ?_
  · repeat' first | exact trivial | refine ⟨rfl, ?_⟩
  · exact ⟨hm, Kz.refl _ _⟩
  · clear hm; rintro ⟨n1, a2⟩ w1 ⟨hm, Kw1⟩
    have z3 := Kw1.size
    have hb := fix_succ hm; clear hm; obtain ⟨n1, rfl, hm⟩ := hb
    generalize hrec1 : fixN (slices_IndexFunc_c205_cover_Open_1_L1 p0 p1_0) n1 = rec1 at hm
    unfold slices_IndexFunc_c205_cover_Open_1_L1 at hm
    try dsimp only at hm
    refine sw_seq ?_
    -- region 2 slices.go:108
    refine sw_region [(0, 0)] rfl rfl rfl ?_
    refine sd_vv rfl rfl rfl (vv_lss (a := a2) (b := (p0.length : Int)) rfl rfl) ?_
    refine sd_done ?_
    refine sw_seq ?_
    refine sw_cond rfl (fun c1 => ?_) (fun c1 => ?_)
    ·
      replace hm := ite_t (of_decide_eq_true c1) hm
      refine sw_skip ?_
      refine then_n ?_
      refine sw_seq ?_
      refine sw_block ?_
      refine sw_seq ?_
      -- region 3 slices.go:108
      refine sw_region [(0, 0), (1, 0)] rfl rfl rfl ?_
      refine sd_vv rfl rfl rfl (vv_move rfl) ?_
      refine sd_vv rfl rfl rfl (vv_assign rfl) ?_
      refine sd_done ?_
      refine sw_seq ?_
      -- region 4 slices.go:109
      refine sw_region [(0, 0), (1, 0), (2, 0), (3, 0), (4, 0), (5, 0)] rfl rfl rfl ?_
      refine sd_vv rfl rfl rfl (vv_move rfl) ?_
      refine sd_vv rfl rfl rfl (vv_move rfl) ?_
      refine sd_vv rfl rfl rfl (vv_move rfl) ?_
      have hb := bnd hm; clear hm; obtain ⟨y3, hy3, hm⟩ := hb
      have B4 := (Rd.kz hp0 Kw1)
      refine sd_vv rfl rfl rfl (vv_ixT (i := a2) Try.underlying22 (agg_108).siz rfl B4 rfl hy3) ?_
      refine sd_vv rfl rfl rfl (vv_elWT agg_108 rfl B4 hy3 (by first | rfl | omega)) ?_
      have B5 := (Bx.kz hbp1_0 Kw1)
      have hb := bnd hm; clear hm; obtain ⟨x4, hx4, hm⟩ := hb
      refine sd_ev rfl rfl rfl (ev_callV en_97 rfl rfl (cover_Open_1_w y3 p1_0 _ _ hx4 _ B5)) ?_
      rintro _ w2 ⟨rfl, Gw2⟩
      have z6 := Gw2.size
      refine sd_done ?_
      refine sw_cond rfl (fun c2 => ?_) (fun c2 => ?_)
      ·
        replace hm := cnd_t c2 hm
        refine sw_seq ?_
        -- region 5 slices.go:110
        refine sw_region [(0, 0), (1, 0)] rfl rfl rfl ?_
        refine sd_vv rfl rfl rfl (vv_move rfl) ?_
        refine sd_vv rfl rfl rfl (vv_assign rfl) ?_
        refine sd_done ?_
        refine sw_ret ?_
        refine block_r ?_
        refine then_r ?_
        refine then_r ?_
        refine block_r ?_
        refine then_r ?_
        have X7 : Gr w w2 := (Gr.trans (Gr.kz (Gr.refl w) Kw1) Gw2)
        have hr := Option.some.inj hm
        subst hr
        refine ⟨_, _, rfl, res_1 rfl (rv_tmp rfl), ?_⟩
        exact ⟨rfl, X7⟩
      ·
        replace hm := cnd_f c2 hm
        refine sw_skip ?_
        refine block_n ?_
        refine then_n ?_
        -- region 6 slices.go:108
        refine sw_region [(0, 0), (1, 0)] rfl rfl rfl ?_
        refine sd_vv rfl rfl rfl (vv_add (k := .i64) (a := a2) (b := 1) rfl rfl) ?_
        refine sd_vv rfl rfl rfl (vv_move rfl) ?_
        refine sd_nil ?_
        have K_8 : Kz [] w w2 := (Kz.gr Kw1 Gw2)
        subst hrec1
        refine ⟨rfl, ⟨n1, w64 (a2 + 1)⟩, ?_, ⟨hm, K_8⟩, Nat.lt_succ_self _⟩
        repeat' first | exact trivial | refine ⟨rfl, ?_⟩
    ·
      replace hm := ite_f (of_decide_eq_false c1) hm
      refine sw_exit ?_
      refine then_x ?_
      refine then_x ?_
      refine block_x ?_
      refine then_n ?_
      refine sw_seq ?_
      -- region 7 slices.go:113
      refine sw_region [(0, 0)] rfl rfl rfl ?_
      refine sd_vv rfl rfl rfl (vv_assign rfl) ?_
      refine sd_done ?_
      refine sw_ret ?_
      have X9 : Gr w w1 := (Gr.kz (Gr.refl w) Kw1)
      have hr := Option.some.inj hm
      subst hr
      refine ⟨_, _, rfl, res_1 rfl (rv_tmp rfl), ?_⟩
      exact ⟨rfl, X9⟩

set_option maxHeartbeats 2000000 in
theorem slices_ContainsFunc_9968_cover_Open_1_w (p0 : List TItem) (p1_0 : Tcover_tree) (vp0 : Value) (zp0 gp0 op0 : Nat) (bp1_0 : Nat) (r : Bool) (hm : slices_ContainsFunc_9968_cover_Open_1 p0 p1_0 = some r) (w : World) (hp0 : Rd w zp0 gp0 op0 18 vp0 (p0.map TItem.cs)) (hbp1_0 : Bx w bp1_0 134 (Tcover_tree.cs p1_0))  :
    Calls Try.prog 98 [vp0, .func (.func 97) [].toArray [.pointer (some ⟨bp1_0, 0, none⟩)].toArray].toArray w fun e w' => ∃ v, e = .returned v ∧ (v = .bool r ∧ Gr w w') := by
  have lt1 := hp0.lth
  have lt2 := hbp1_0.lt
  unfold slices_ContainsFunc_9968_cover_Open_1 at hm
  refine calls_of_sw (R := fun v w' => v = .bool r ∧ Gr w w') 9 Try.func98 rfl rfl rfl ?_
  refine sw_seq ?_
  -- region 0 slices.go:124
  refine sw_region [(0, 0)] rfl rfl rfl ?_
  refine sd_vv rfl rfl rfl (vv_assign rfl) ?_
  refine sd_done ?_
  refine sw_seq ?_
  -- region 1 slices.go:125
  refine sw_region [(0, 0), (1, 0), (2, 0), (3, 0), (4, 0)] rfl rfl rfl ?_
  refine sd_vv rfl rfl rfl (vv_move rfl) ?_
  refine sd_vv rfl rfl rfl (vv_move rfl) ?_
  have hb := bnd hm; clear hm; obtain ⟨x1, hx1, hm⟩ := hb
  refine sd_ev rfl rfl rfl (ev_call en_143 rfl (slices_IndexFunc_c205_cover_Open_1_w p0 p1_0 _ _ _ _ _ _ hx1 _ hp0 hbp1_0)) ?_
  rintro _ w1 ⟨rfl, Gw1⟩
  have z3 := Gw1.size
  refine sd_vv rfl rfl rfl (vv_geq (a := x1) (b := 0) rfl rfl) ?_
  refine sd_vv rfl rfl rfl (vv_assign rfl) ?_
  refine sd_done ?_
  refine sw_ret ?_
  have X4 : Gr w w1 := (Gr.trans (Gr.refl w) Gw1)
  have hr := Option.some.inj hm
  subst hr
  refine ⟨_, _, rfl, res_1 rfl (rv_tmp rfl), ?_⟩
  exact ⟨rfl, X4⟩

set_option maxHeartbeats 2000000 in
theorem cover_Open_w (p0 : TScheme) (p1 : TSecret) (p2 : THeader) (vp1_1 : Value) (zp1_1 gp1_1 op1_1 : Nat) (vp2_0 : Value) (zp2_0 gp2_0 op2_0 : Nat) (vp2_2 : Value) (zp2_2 gp2_2 op2_2 : Nat) (r : W2 × Int) (hm : cover_Open p0 p1 p2 = some r) (w : World) (hp1_1 : Rd w zp1_1 gp1_1 op1_1 18 vp1_1 (p1.Labels.map TLabel.cs)) (hp2_0 : Rd w zp2_0 gp2_0 op2_0 18 vp2_0 (p2.Items.map TItem.cs)) (hp2_2 : Rd w zp2_2 gp2_2 op2_2 2 vp2_2 (p2.Points.map TPoint.cs))  :
    Calls Try.prog 44 [.agg (TScheme.cs p0).toArray, .agg (TSecret.cs p1 vp1_1).toArray, .agg (THeader.cs p2 vp2_0 vp2_2).toArray].toArray w fun e w' => ∃ v, e = .returned v ∧ (v = .tuple [kv r.1, .int .i64 r.2].toArray ∧ Gr w w') := by
  have lt1 := hp1_1.lth
  have lt2 := hp2_0.lth
  have lt3 := hp2_2.lth
  unfold cover_Open at hm
  refine calls_of_sw (R := fun v w' => v = .tuple [kv r.1, .int .i64 r.2].toArray ∧ Gr w w') 82 Try.func44 rfl rfl rfl ?_
  refine sw_seq ?_
  -- region 0 cover.go:300
  refine sw_region [(0, 0), (1, 0), (2, 0), (3, 0), (4, 0)] rfl rfl rfl ?_
  refine sd_ev rfl rfl rfl (ev_box (cs := TScheme.cs p0) rfl rfl) ?_
  rintro _ w1 ⟨b1, rfl, hbw1, Bw1, Gw1⟩
  have z4 := Gw1.size
  have lt5 := Bw1.lt
  refine sd_ev rfl rfl rfl (ev_box (cs := TSecret.cs p1 vp1_1) rfl rfl) ?_
  rintro _ w2 ⟨b2, rfl, hbw2, Bw2, Gw2⟩
  have z6 := Gw2.size
  have lt7 := Bw2.lt
  refine sd_ev rfl rfl rfl (ev_box (cs := THeader.cs p2 vp2_0 vp2_2) rfl rfl) ?_
  rintro _ w3 ⟨b3, rfl, hbw3, Bw3, Gw3⟩
  have z8 := Gw3.size
  have lt9 := Bw3.lt
  refine sd_ev rfl rfl rfl (ev_alloc (cs := kb k0) zv_26 rfl) ?_
  rintro _ w4 ⟨b4, rfl, hbw4, Bw4, Gw4⟩
  have z10 := Gw4.size
  have lt11 := Bw4.lt
  refine sd_vv rfl rfl rfl (vv_assign rfl) ?_
  refine sd_done ?_
  refine sw_seq ?_
  -- region 1 cover.go:301
  refine sw_region [(0, 0), (1, 0), (2, 0), (3, 0), (4, 0), (5, 0), (6, 0), (7, 0)] rfl rfl rfl ?_
  have B12 := (Bx.gr (Bx.gr (Bx.gr Bw1 Gw2) Gw3) Gw4)
  refine sd_vv rfl rfl rfl (vv_loadW agg_45 rfl B12 rfl) ?_
  have hb := bnd hm; clear hm; obtain ⟨x1, hx1, hm⟩ := hb
  refine sd_ev rfl rfl rfl (ev_call en_74 rfl (cover_enter_w p0 ([] : List TSubset) _ _ _ _ _ hx1 _ (Own.rd (own_nil _ 0 47 2)))) ?_
  rintro _ w5 ⟨rfl, Gw5⟩
  have z13 := Gw5.size
  refine sd_vv rfl rfl rfl (vv_move rfl) ?_
  refine sd_vv rfl rfl rfl (vv_extract rfl rfl) ?_
  refine sd_vv rfl rfl rfl (vv_extract rfl rfl) ?_
  refine sd_ev rfl rfl rfl (ev_alloc (cs := Tcover_tree.cs (Tcover_tree.mk 0#8 0 0)) zv_134 rfl) ?_
  rintro _ w6 ⟨b6, rfl, hbw6, Bw6, Gw6⟩
  have z14 := Gw6.size
  have lt15 := Bw6.lt
  refine sd_ev rfl rfl rfl (ev_stM (cs' := Tcover_tree.cs x1.1) (vs := Tcover_tree.cs x1.1) (agg_134).siz rfl rfl rfl rfl rfl Bw6 rfl rfl) ?_
  rintro _ w7 ⟨Bw7, Mw7⟩
  have z16 := Mw7.size
  refine sd_vv rfl rfl rfl (vv_assign rfl) ?_
  refine sd_done ?_
  refine sw_seq ?_
  refine sw_seq ?_
  -- region 2 cover.go:302
  refine sw_region [(0, 0), (1, 0)] rfl rfl rfl ?_
  refine sd_vv rfl rfl rfl (vv_move rfl) ?_
  refine sd_vv rfl rfl rfl (vv_neq (a := x1.2) (b := 0) rfl rfl) ?_
  refine sd_done ?_
  refine sw_cond rfl (fun c1 => ?_) (fun c1 => ?_)
  ·
    replace hm := ite_t (of_decide_eq_true c1) hm
    refine sw_seq ?_
    -- region 3 cover.go:303
    refine sw_region [(0, 0), (1, 0), (2, 0), (3, 0)] rfl rfl rfl ?_
    refine sd_vv rfl rfl rfl (vv_buildZ bz_26) ?_
    refine sd_vv rfl rfl rfl (vv_move rfl) ?_
    have B17 := (Bx.md (Bx.gr (Bx.gr Bw4 Gw5) Gw6) Mw7)
    refine sd_ev rfl rfl rfl (ev_stM (cs' := kb k0) (vs := kb k0) (agg_26).siz rfl rfl rfl rfl rfl B17 rfl rfl) ?_
    rintro _ w8 ⟨Bw8, Mw8⟩
    have z18 := Mw8.size
    refine sd_vv rfl rfl rfl (vv_assign rfl) ?_
    refine sd_done ?_
    refine sw_ret ?_
    refine then_r ?_
    have X19 : Gr w w8 := (Gr.md (Gr.md (Gr.trans (Gr.trans (Gr.trans (Gr.trans (Gr.trans (Gr.trans (Gr.refl w) Gw1) Gw2) Gw3) Gw4) Gw5) Gw6) Mw7) Mw8)
    have hr := Option.some.inj hm
    subst hr
    refine ⟨_, _, rfl, res_2 rfl (rv_cellW agg_26 rfl Bw8 rfl) (rv_tmp rfl), ?_⟩
    exact ⟨rfl, X19⟩
  ·
    replace hm := ite_f (of_decide_eq_false c1) hm
    refine sw_skip ?_
    refine then_n ?_
    refine sw_seq ?_
    -- region 4 cover.go:305
    refine sw_region [(0, 0), (1, 0)] rfl rfl rfl ?_
    refine sd_vv rfl rfl rfl (vv_makeFunc rfl rfl) ?_
    refine sd_vv rfl rfl rfl (vv_assign rfl) ?_
    refine sd_done ?_
    refine sw_seq ?_
    have X20 : Gr w w7 := (Gr.md (Gr.trans (Gr.trans (Gr.trans (Gr.trans (Gr.trans (Gr.trans (Gr.refl w) Gw1) Gw2) Gw3) Gw4) Gw5) Gw6) Mw7)
    refine sw_joinD (β := Bool) [26, 27, 28, 29, 30, 31, 32, 33, 34, 35, 36, 37, 38, 39, 40, 41, 42, 43, 44, 45, 46, 47, 48, 49, 50, 51, 52] (fun a2 => [(52, .bool a2)]) (fun a2 wr => (cover_Open_J1 p1 p2 x1 a2 = some r) ∧ Kz [] w7 wr) ?_ ?_
    · clear hm; rintro a2 w9 ⟨hm, Kw9⟩
      have z21 := Kw9.size
      unfold cover_Open_J1 at hm
      refine sw_cond rfl (fun c2 => ?_) (fun c2 => ?_)
      ·
        replace hm := cnd_t c2 hm
        refine sw_seq ?_
        -- region 6 cover.go:307
        refine sw_region [(0, 0), (1, 0), (2, 0)] rfl rfl rfl ?_
        refine sd_vv rfl rfl rfl (vv_buildZ bz_26) ?_
        have B22 := (Bx.kz (Bx.md (Bx.gr (Bx.gr Bw4 Gw5) Gw6) Mw7) Kw9)
        refine sd_ev rfl rfl rfl (ev_stM (cs' := kb k0) (vs := kb k0) (agg_26).siz rfl rfl rfl rfl rfl B22 rfl rfl) ?_
        rintro _ w10 ⟨Bw10, Mw10⟩
        have z23 := Mw10.size
        refine sd_vv rfl rfl rfl (vv_assign rfl) ?_
        refine sd_done ?_
        refine sw_ret ?_
        refine then_r ?_
        have X24 : Gr w w10 := (Gr.md (Gr.kz X20 Kw9) Mw10)
        have hr := Option.some.inj hm
        subst hr
        refine ⟨_, _, rfl, res_2 rfl (rv_cellW agg_26 rfl Bw10 rfl) (rv_tmp rfl), ?_⟩
        exact ⟨rfl, X24⟩
      ·
        replace hm := cnd_f c2 hm
        refine sw_skip ?_
        refine then_n ?_
        refine sw_seq ?_
        refine sw_seq ?_
        -- region 7 cover.go:309
        refine sw_region [(0, 0), (1, 0), (2, 0), (3, 0)] rfl rfl rfl ?_
        refine sd_vv rfl rfl rfl (vv_fieldAddr fa_28_0 rfl) ?_
        have B25 := (Bx.kz (Bx.md (Bx.gr (Bx.gr (Bx.gr Bw3 Gw4) Gw5) Gw6) Mw7) Kw9)
        refine sd_vv rfl rfl rfl (vv_load1 (v := vp2_0) one_22 rfl B25 rfl) ?_
        have B26 := (Rd.kz (Rd.md (Rd.gr (Rd.gr (Rd.gr (Rd.gr (Rd.gr (Rd.gr hp2_0 Gw1) Gw2) Gw3) Gw4) Gw5) Gw6) Mw7 (tk1 ((pv_lt (A := (fun x => x ≠ b6)) lt2) : zp2_0 = 0 ∨ gp2_0 ≠ b6))) Kw9)
        refine sd_vv rfl rfl rfl (vv_lenT (l := p2.Items) (c := TItem.cs) Try.underlying22 rfl B26) ?_
        refine sd_vv rfl rfl rfl (vv_move rfl) ?_
        refine sd_done ?_
        refine sw_block ?_
        have X27 : Gr w w9 := (Gr.kz X20 Kw9)
        have B28 := (Rd.kz (Rd.md (Rd.gr (Rd.gr (Rd.gr (Rd.gr (Rd.gr (Rd.gr hp1_1 Gw1) Gw2) Gw3) Gw4) Gw5) Gw6) Mw7 (tk1 ((pv_lt (A := (fun x => x ≠ b6)) lt1) : zp1_1 = 0 ∨ gp1_1 ≠ b6))) Kw9)
        have B29 := (Rd.kz (Rd.md (Rd.gr (Rd.gr (Rd.gr (Rd.gr (Rd.gr (Rd.gr hp2_2 Gw1) Gw2) Gw3) Gw4) Gw5) Gw6) Mw7 (tk1 ((pv_lt (A := (fun x => x ≠ b6)) lt3) : zp2_2 = 0 ∨ gp2_2 ≠ b6))) Kw9)
        refine sw_loopD (α := Nat × Int) [7, 12, 13, 14, 15, 57, 58, 59, 60, 61, 62, 63, 64, 65, 66, 67, 68, 69, 70, 71, 72, 73, 74, 75, 76, 77, 78, 79, 80] (fun ⟨n2, a4⟩ => [(7, .int .i64 0), (57, .int .i64 a4)]) (fun ⟨n2, a4⟩ wr => (fixN (cover_Open_L2 p1 p2 x1) n2 a4 = some r) ∧ Kz [] w9 wr) (fun ⟨n2, a4⟩ => n2) ⟨FUEL, 0⟩ ?_ ?_ ?_
        · repeat' first | exact trivial | refine ⟨rfl, ?_⟩
        · exact ⟨hm, Kz.refl _ _⟩
        · clear hm; rintro ⟨n2, a4⟩ w11 ⟨hm, Kw11⟩
          have z30 := Kw11.size
          have hb := fix_succ hm; clear hm; obtain ⟨n2, rfl, hm⟩ := hb
          generalize hrec2 : fixN (cover_Open_L2 p1 p2 x1) n2 = rec2 at hm
          unfold cover_Open_L2 at hm
          try dsimp only at hm
          refine sw_seq ?_
          -- region 8 cover.go:309
          refine sw_region [(0, 0)] rfl rfl rfl ?_
          refine sd_vv rfl rfl rfl (vv_lss (a := a4) (b := (p2.Items.length : Int)) rfl rfl) ?_
          refine sd_done ?_
          refine sw_seq ?_
          refine sw_cond rfl (fun c3 => ?_) (fun c3 => ?_)
          ·
            replace hm := ite_t (of_decide_eq_true c3) hm
            refine sw_skip ?_
            refine then_n ?_
            refine sw_seq ?_
            refine sw_block ?_
            refine sw_seq ?_
            -- region 9 cover.go:309
            refine sw_region [(0, 0), (1, 0), (2, 0), (3, 0)] rfl rfl rfl ?_
            have hb := bnd hm; clear hm; obtain ⟨y5, hy5, hm⟩ := hb
            have B31 := (Rd.kz B26 Kw11)
            refine sd_vv rfl rfl rfl (vv_ixT (i := a4) Try.underlying22 (agg_108).siz rfl B31 rfl hy5) ?_
            refine sd_vv rfl rfl rfl (vv_elWT agg_108 rfl B31 hy5 (by first | rfl | omega)) ?_
            refine sd_ev rfl rfl rfl (ev_alloc (cs := TItem.cs (TItem.mk (TSubset.mk 0 0) k0)) zv_108 rfl) ?_
            rintro _ w12 ⟨b12, rfl, hbw12, Bw12, Gw12⟩
            have z32 := Gw12.size
            have lt33 := Bw12.lt
            refine sd_ev rfl rfl rfl (ev_stM (cs' := TItem.cs y5) (vs := TItem.cs y5) (agg_108).siz rfl rfl rfl rfl rfl Bw12 rfl rfl) ?_
            rintro _ w13 ⟨Bw13, Mw13⟩
            have z34 := Mw13.size
            refine sd_done ?_
            refine sw_seq ?_
            -- region 10 cover.go:310
            refine sw_region [(0, 0), (1, 0), (2, 0), (3, 0), (4, 0), (5, 0), (6, 0), (7, 0), (8, 0), (9, 0), (10, 0)] rfl rfl rfl ?_
            have B35 := (Bx.md (Bx.gr (Bx.kz (Bx.kz Bw7 Kw9) Kw11) Gw12) Mw13)
            refine sd_vv rfl rfl rfl (vv_loadW agg_134 rfl B35 rfl) ?_
            have B36 := (Bx.md (Bx.gr (Bx.kz (Bx.kz (Bx.md (Bx.gr (Bx.gr (Bx.gr (Bx.gr Bw2 Gw3) Gw4) Gw5) Gw6) Mw7) Kw9) Kw11) Gw12) Mw13)
            refine sd_vv rfl rfl rfl (vv_loadW agg_74 rfl B36 rfl) ?_
            refine sd_vv rfl rfl rfl (vv_fieldAddr fa_108_0 rfl) ?_
            refine sd_vv rfl rfl rfl (vv_loadM (vs := TSubset.cs y5.Subset) agg_47 rfl Bw13 rfl rfl) ?_
            have B37 := (Rd.md (Rd.gr (Rd.kz B28 Kw11) Gw12) Mw13 (tk1 ((pv_lt (A := (fun x => x ≠ b12)) lt1) : zp1_1 = 0 ∨ gp1_1 ≠ b12)))
            have hb := bnd hm; clear hm; obtain ⟨x6, hx6, hm⟩ := hb
            refine sd_ev rfl rfl rfl (ev_call en_99 rfl (cover_tree_find_w x1.1 p1 y5.Subset _ _ _ _ _ hx6 _ B37)) ?_
            rintro _ w14 ⟨rfl, Gw14⟩
            have z38 := Gw14.size
            refine sd_vv rfl rfl rfl (vv_move rfl) ?_
            refine sd_vv rfl rfl rfl (vv_extract rfl rfl) ?_
            refine sd_vv rfl rfl rfl (vv_extract rfl rfl) ?_
            refine sd_ev rfl rfl rfl (ev_alloc (cs := kb k0) zv_26 rfl) ?_
            rintro _ w15 ⟨b15, rfl, hbw15, Bw15, Gw15⟩
            have z39 := Gw15.size
            have lt40 := Bw15.lt
            refine sd_ev rfl rfl rfl (ev_stM (cs' := kb x6.1) (vs := kb x6.1) (agg_26).siz rfl rfl rfl rfl rfl Bw15 rfl rfl) ?_
            rintro _ w16 ⟨Bw16, Mw16⟩
            have z41 := Mw16.size
            refine sd_vv rfl rfl rfl (vv_assign rfl) ?_
            refine sd_done ?_
            refine sw_seq ?_
            -- region 11 cover.go:310
            refine sw_region [(0, 0)] rfl rfl rfl ?_
            refine sd_vv rfl rfl rfl (vv_move rfl) ?_
            refine sd_done ?_
            refine sw_cond rfl (fun c4 => ?_) (fun c4 => ?_)
            ·
              replace hm := cnd_t c4 hm
              refine sw_seq ?_
              -- region 12 cover.go:311
              refine sw_region [(0, 0), (1, 0), (2, 0), (3, 0), (4, 0), (5, 0)] rfl rfl rfl ?_
              refine sd_vv rfl rfl rfl (vv_loadW agg_26 rfl Bw16 rfl) ?_
              refine sd_vv rfl rfl rfl (vv_fieldAddr fa_108_1 rfl) ?_
              have B42 := (Bx.md (Bx.gr (Bx.gr Bw13 Gw14) Gw15) Mw16)
              refine sd_vv rfl rfl rfl (vv_loadM (vs := kb y5.Box) agg_26 rfl B42 rfl rfl) ?_
              refine sd_ev rfl rfl rfl (ev_call en_100 rfl (decr_c x6.1 y5.Box _)) ?_
              rintro _ w17 ⟨rfl, Gw17⟩
              have z43 := Gw17.size
              refine sd_ev rfl rfl rfl (ev_alloc (cs := kb k0) zv_26 rfl) ?_
              rintro _ w18 ⟨b18, rfl, hbw18, Bw18, Gw18⟩
              have z44 := Gw18.size
              have lt45 := Bw18.lt
              refine sd_ev rfl rfl rfl (ev_stM (cs' := kb (decr x6.1 y5.Box)) (vs := kb (decr x6.1 y5.Box)) (agg_26).siz rfl rfl rfl rfl rfl Bw18 rfl rfl) ?_
              rintro _ w19 ⟨Bw19, Mw19⟩
              have z46 := Mw19.size
              refine sd_done ?_
              refine sw_seq ?_
              -- region 13 cover.go:311 DRAWS
              refine sw_drawN [([])] [] (.leaf [(0, 10), (2, 10), (3, 10), (1, 0), (4, 10)]) (by kernel_rfl) (by kernel_rfl) rfl (by kernel_rfl) ?_
              intro w20 Gw20 zw20
              refine sdz_leaf ?_
              have B47 := (Bx.gr Bw19 Gw20)
              refine dd_hn 0 rfl rfl rfl rfl (Kp.refl ([]) w20) (fun w hS => vv_loadW agg_26 rfl (Bx.kp B47 hS) rfl) ?_
              refine dd_hn 0 rfl rfl rfl rfl (Kp.refl ([]) w20) (fun w hS => vv_fieldAddr fa_28_4 rfl) ?_
              have B48 := (Bx.gr (Bx.md (Bx.gr (Bx.gr (Bx.md (Bx.gr (Bx.gr (Bx.md (Bx.gr (Bx.kz B25 Kw11) Gw12) Mw13) Gw14) Gw15) Mw16) Gw17) Gw18) Mw19) Gw20)
              refine dd_hn 0 rfl rfl rfl rfl (Kp.refl ([]) w20) (fun w hS => vv_loadM (vs := kb p2.Check) agg_26 rfl (Bx.kp B48 hS) rfl rfl) ?_
              refine dd_z [] rfl rfl rfl (ev_call en_86 rfl (derive_c (decr x6.1 y5.Box) (un8 53#8) (un8_nn _) (un8_le _) 0#64 _)) ⟨fun _ => tk0, trivial⟩ ?_
              rintro _ w21 ⟨rfl, Gw21⟩
              have z49 := Gw21.size
              refine ⟨Kz.ofGr Gw21, ?_⟩
              have S50 := (Kp.gr (Kp.refl ([]) w20) Gw21)
              refine dd_hn 0 rfl rfl rfl rfl S50 (fun w hS => vv_eqlS (cf := kb) (a := drv (decr x6.1 y5.Box) (un8 53#8) 0#64) (b := p2.Check) eqt_26 rfl rfl rfl rfl (fun h => kb_inj h)) ?_
              refine sd_done ?_
              refine sw_cond rfl (fun c5 => ?_) (fun c5 => ?_)
              ·
                replace hm := ite_t (of_decide_eq_true c5) hm
                refine sw_seq ?_
                -- region 14 cover.go:312
                refine sw_region [(0, 0), (1, 0), (2, 0)] rfl rfl rfl ?_
                have B51 := (Bx.gr B47 Gw21)
                refine sd_vv rfl rfl rfl (vv_loadW agg_26 rfl B51 rfl) ?_
                have B52 := (Bx.gr (Bx.gr (Bx.md (Bx.gr (Bx.gr (Bx.md (Bx.gr (Bx.gr (Bx.md (Bx.gr (Bx.kz (Bx.kz (Bx.md (Bx.gr (Bx.gr Bw4 Gw5) Gw6) Mw7) Kw9) Kw11) Gw12) Mw13) Gw14) Gw15) Mw16) Gw17) Gw18) Mw19) Gw20) Gw21)
                refine sd_ev rfl rfl rfl (ev_stM (cs' := kb (decr x6.1 y5.Box)) (vs := kb (decr x6.1 y5.Box)) (agg_26).siz rfl rfl rfl rfl rfl B52 rfl rfl) ?_
                rintro _ w22 ⟨Bw22, Mw22⟩
                have z53 := Mw22.size
                refine sd_vv rfl rfl rfl (vv_assign rfl) ?_
                refine sd_done ?_
                refine sw_ret ?_
                refine block_r ?_
                refine then_r ?_
                refine then_r ?_
                refine block_r ?_
                refine then_r ?_
                have X54 : Gr w w22 := (Gr.md (Gr.trans (Gr.trans (Gr.md (Gr.trans (Gr.trans (Gr.md (Gr.trans (Gr.trans (Gr.md (Gr.trans (Gr.kz X27 Kw11) Gw12) Mw13) Gw14) Gw15) Mw16) Gw17) Gw18) Mw19) Gw20) Gw21) Mw22)
                have hr := Option.some.inj hm
                subst hr
                refine ⟨_, _, rfl, res_2 rfl (rv_cellW agg_26 rfl Bw22 rfl) (rv_tmp rfl), ?_⟩
                exact ⟨rfl, X54⟩
              ·
                replace hm := ite_f (of_decide_eq_false c5) hm
                refine sw_skip ?_
                refine block_n ?_
                refine then_n ?_
                -- region 15 cover.go:309
                refine sw_region [(0, 0), (1, 0)] rfl rfl rfl ?_
                refine sd_vv rfl rfl rfl (vv_add (k := .i64) (a := a4) (b := 1) rfl rfl) ?_
                refine sd_vv rfl rfl rfl (vv_move rfl) ?_
                refine sd_nil ?_
                have K_55 : Kz [] w9 w21 := (Kz.gr (Kz.gr (Kz.md (Kz.gr (Kz.gr (Kz.md (Kz.gr (Kz.gr (Kz.md (Kz.gr Kw11 Gw12) Mw13) Gw14) Gw15) Mw16) Gw17) Gw18) Mw19) Gw20) Gw21)
                subst hrec2
                refine ⟨rfl, ⟨n2, w64 (a4 + 1)⟩, ?_, ⟨hm, K_55⟩, Nat.lt_succ_self _⟩
                repeat' first | exact trivial | refine ⟨rfl, ?_⟩
            ·
              replace hm := cnd_f c4 hm
              refine sw_skip ?_
              refine block_n ?_
              refine then_n ?_
              -- region 15 cover.go:309
              refine sw_region [(0, 0), (1, 0)] rfl rfl rfl ?_
              refine sd_vv rfl rfl rfl (vv_add (k := .i64) (a := a4) (b := 1) rfl rfl) ?_
              refine sd_vv rfl rfl rfl (vv_move rfl) ?_
              refine sd_nil ?_
              have K_56 : Kz [] w9 w16 := (Kz.md (Kz.gr (Kz.gr (Kz.md (Kz.gr Kw11 Gw12) Mw13) Gw14) Gw15) Mw16)
              subst hrec2
              refine ⟨rfl, ⟨n2, w64 (a4 + 1)⟩, ?_, ⟨hm, K_56⟩, Nat.lt_succ_self _⟩
              repeat' first | exact trivial | refine ⟨rfl, ?_⟩
          ·
            replace hm := ite_f (of_decide_eq_false c3) hm
            refine sw_exit ?_
            refine then_x ?_
            refine then_x ?_
            refine block_x ?_
            refine then_n ?_
            refine sw_seq ?_
            -- region 16 cover.go:316
            refine sw_region [(0, 0), (1, 0), (2, 0)] rfl rfl rfl ?_
            refine sd_vv rfl rfl rfl (vv_buildZ bz_26) ?_
            have B57 := (Bx.kz (Bx.kz (Bx.md (Bx.gr (Bx.gr Bw4 Gw5) Gw6) Mw7) Kw9) Kw11)
            refine sd_ev rfl rfl rfl (ev_stM (cs' := kb k0) (vs := kb k0) (agg_26).siz rfl rfl rfl rfl rfl B57 rfl rfl) ?_
            rintro _ w23 ⟨Bw23, Mw23⟩
            have z58 := Mw23.size
            refine sd_vv rfl rfl rfl (vv_assign rfl) ?_
            refine sd_done ?_
            refine sw_ret ?_
            have X59 : Gr w w23 := (Gr.md (Gr.kz X27 Kw11) Mw23)
            have hr := Option.some.inj hm
            subst hr
            refine ⟨_, _, rfl, res_2 rfl (rv_cellW agg_26 rfl Bw23 rfl) (rv_tmp rfl), ?_⟩
            exact ⟨rfl, X59⟩
    ·
      -- region 5 cover.go:306
      refine sw_region [(0, 0), (1, 0), (2, 0), (3, 0), (4, 0), (5, 0), (6, 0), (7, 0), (8, 0), (9, 0), (10, 0), (11, 0), (12, 0), (13, 0), (14, 0), (15, 0), (16, 0), (17, 0), (18, 0), (19, 0), (20, 0), (21, 0), (22, 0), (23, 0), (24, 0), (25, 0), (26, 0)] rfl rfl rfl ?_
      refine sd_vv rfl rfl rfl (vv_fieldAddr fa_28_0 rfl) ?_
      have B60 := (Bx.md (Bx.gr (Bx.gr (Bx.gr Bw3 Gw4) Gw5) Gw6) Mw7)
      refine sd_vv rfl rfl rfl (vv_load1 (v := vp2_0) one_22 rfl B60 rfl) ?_
      have B61 := (Rd.md (Rd.gr (Rd.gr (Rd.gr (Rd.gr (Rd.gr (Rd.gr hp2_0 Gw1) Gw2) Gw3) Gw4) Gw5) Gw6) Mw7 (tk1 ((pv_lt (A := (fun x => x ≠ b6)) lt2) : zp2_0 = 0 ∨ gp2_0 ≠ b6)))
      refine sd_vv rfl rfl rfl (vv_lenT (l := p2.Items) (c := TItem.cs) Try.underlying22 rfl B61) ?_
      refine sd_vv rfl rfl rfl (vv_gtr (a := (p2.Items.length : Int)) (b := 64) rfl rfl) ?_
      refine sd_split rfl rfl rfl (vv_move rfl) (fun c6 => ?_) (fun c6 => ?_)
      ·
        replace hm := ite_t (of_decide_eq_true c6) hm
        refine sd_skip rfl rfl rfl ?_
        refine sd_skip rfl rfl rfl ?_
        refine sd_skip rfl rfl rfl ?_
        refine sd_vv rfl rfl rfl (vv_pickT rfl rfl) ?_
        refine sd_vv rfl rfl rfl (vv_move rfl) ?_
        refine sd_skip rfl rfl rfl ?_
        refine sd_skip rfl rfl rfl ?_
        refine sd_skip rfl rfl rfl ?_
        refine sd_skip rfl rfl rfl ?_
        refine sd_vv rfl rfl rfl (vv_pickT rfl rfl) ?_
        refine sd_vv rfl rfl rfl (vv_move rfl) ?_
        refine sd_skip rfl rfl rfl ?_
        refine sd_skip rfl rfl rfl ?_
        refine sd_skip rfl rfl rfl ?_
        refine sd_skip rfl rfl rfl ?_
        refine sd_vv rfl rfl rfl (vv_pickT rfl rfl) ?_
        refine sd_vv rfl rfl rfl (vv_move rfl) ?_
        refine sd_skip rfl rfl rfl ?_
        refine sd_skip rfl rfl rfl ?_
        refine sd_skip rfl rfl rfl ?_
        refine sd_skip rfl rfl rfl ?_
        refine sd_vv rfl rfl rfl (vv_pickT rfl rfl) ?_
        refine sd_nil ?_
        have K_62 : Kz [] w7 w7 := (Kz.refl _ _)
        refine ⟨rfl, true, ?_, hm, K_62⟩
        repeat' first | exact trivial | refine ⟨rfl, ?_⟩
      ·
        replace hm := ite_f (of_decide_eq_false c6) hm
        refine sd_vv rfl rfl rfl (vv_fieldAddr fa_28_1 rfl) ?_
        refine sd_vv rfl rfl rfl (vv_load1 (v := wv p2.Base) one_23 rfl B60 rfl) ?_
        refine sd_vv rfl rfl rfl (vv_neqU (c := p2.Base) (d := 0#64) rfl rfl) ?_
        refine sd_vv rfl rfl rfl (vv_pickF rfl rfl) ?_
        refine sd_split rfl rfl rfl (vv_move rfl) (fun c7 => ?_) (fun c7 => ?_)
        ·
          replace hm := ite_t (of_decide_eq_true c7) hm
          refine sd_skip rfl rfl rfl ?_
          refine sd_skip rfl rfl rfl ?_
          refine sd_skip rfl rfl rfl ?_
          refine sd_skip rfl rfl rfl ?_
          refine sd_vv rfl rfl rfl (vv_pickT rfl rfl) ?_
          refine sd_vv rfl rfl rfl (vv_move rfl) ?_
          refine sd_skip rfl rfl rfl ?_
          refine sd_skip rfl rfl rfl ?_
          refine sd_skip rfl rfl rfl ?_
          refine sd_skip rfl rfl rfl ?_
          refine sd_vv rfl rfl rfl (vv_pickT rfl rfl) ?_
          refine sd_vv rfl rfl rfl (vv_move rfl) ?_
          refine sd_skip rfl rfl rfl ?_
          refine sd_skip rfl rfl rfl ?_
          refine sd_skip rfl rfl rfl ?_
          refine sd_skip rfl rfl rfl ?_
          refine sd_vv rfl rfl rfl (vv_pickT rfl rfl) ?_
          refine sd_nil ?_
          have K_63 : Kz [] w7 w7 := (Kz.refl _ _)
          refine ⟨rfl, true, ?_, hm, K_63⟩
          repeat' first | exact trivial | refine ⟨rfl, ?_⟩
        ·
          replace hm := ite_f (of_decide_eq_false c7) hm
          refine sd_vv rfl rfl rfl (vv_fieldAddr fa_28_2 rfl) ?_
          refine sd_vv rfl rfl rfl (vv_load1 (v := vp2_2) one_24 rfl B60 rfl) ?_
          have B64 := (Rd.md (Rd.gr (Rd.gr (Rd.gr (Rd.gr (Rd.gr (Rd.gr hp2_2 Gw1) Gw2) Gw3) Gw4) Gw5) Gw6) Mw7 (tk1 ((pv_lt (A := (fun x => x ≠ b6)) lt3) : zp2_2 = 0 ∨ gp2_2 ≠ b6)))
          refine sd_vv rfl rfl rfl (vv_lenT (l := p2.Points) (c := TPoint.cs) Try.underlying24 rfl B64) ?_
          refine sd_vv rfl rfl rfl (vv_gtr (a := (p2.Points.length : Int)) (b := 0) rfl rfl) ?_
          refine sd_vv rfl rfl rfl (vv_pickF rfl rfl) ?_
          refine sd_split rfl rfl rfl (vv_move rfl) (fun c8 => ?_) (fun c8 => ?_)
          ·
            replace hm := ite_t (of_decide_eq_true c8) hm
            refine sd_skip rfl rfl rfl ?_
            refine sd_skip rfl rfl rfl ?_
            refine sd_skip rfl rfl rfl ?_
            refine sd_skip rfl rfl rfl ?_
            refine sd_vv rfl rfl rfl (vv_pickT rfl rfl) ?_
            refine sd_vv rfl rfl rfl (vv_move rfl) ?_
            refine sd_skip rfl rfl rfl ?_
            refine sd_skip rfl rfl rfl ?_
            refine sd_skip rfl rfl rfl ?_
            refine sd_skip rfl rfl rfl ?_
            refine sd_vv rfl rfl rfl (vv_pickT rfl rfl) ?_
            refine sd_nil ?_
            have K_65 : Kz [] w7 w7 := (Kz.refl _ _)
            refine ⟨rfl, true, ?_, hm, K_65⟩
            repeat' first | exact trivial | refine ⟨rfl, ?_⟩
          ·
            replace hm := ite_f (of_decide_eq_false c8) hm
            refine sd_vv rfl rfl rfl (vv_fieldAddr fa_28_3 rfl) ?_
            refine sd_vv rfl rfl rfl (vv_loadM (vs := kb p2.Box) agg_26 rfl B60 rfl rfl) ?_
            refine sd_vv rfl rfl rfl (vv_buildZ bz_26) ?_
            refine sd_vv rfl rfl rfl (vv_neqS (cf := kb) (a := p2.Box) (b := k0) eqt_26 rfl rfl rfl rfl (fun h => kb_inj h)) ?_
            refine sd_vv rfl rfl rfl (vv_pickF rfl rfl) ?_
            refine sd_split rfl rfl rfl (vv_move rfl) (fun c9 => ?_) (fun c9 => ?_)
            ·
              replace hm := ite_t (of_decide_eq_true c9) hm
              refine sd_skip rfl rfl rfl ?_
              refine sd_skip rfl rfl rfl ?_
              refine sd_skip rfl rfl rfl ?_
              refine sd_skip rfl rfl rfl ?_
              refine sd_vv rfl rfl rfl (vv_pickT rfl rfl) ?_
              refine sd_nil ?_
              have K_66 : Kz [] w7 w7 := (Kz.refl _ _)
              refine ⟨rfl, true, ?_, hm, K_66⟩
              repeat' first | exact trivial | refine ⟨rfl, ?_⟩
            ·
              replace hm := ite_f (of_decide_eq_false c9) hm
              refine sd_vv rfl rfl rfl (vv_fieldAddr fa_28_0 rfl) ?_
              refine sd_vv rfl rfl rfl (vv_load1 (v := vp2_0) one_22 rfl B60 rfl) ?_
              refine sd_vv rfl rfl rfl (vv_move rfl) ?_
              have hb := bnd hm; clear hm; obtain ⟨x7, hx7, hm⟩ := hb
              refine sd_ev rfl rfl rfl (ev_call en_98 rfl (slices_ContainsFunc_9968_cover_Open_1_w p2.Items x1.1 _ _ _ _ _ _ hx7 _ B61 Bw7)) ?_
              rintro _ w24 ⟨rfl, Gw24⟩
              have z67 := Gw24.size
              refine sd_vv rfl rfl rfl (vv_pickF rfl rfl) ?_
              refine sd_nil ?_
              have K_68 : Kz [] w7 w24 := (Kz.gr (Kz.refl _ _) Gw24)
              refine ⟨rfl, x7, ?_, hm, K_68⟩
              repeat' first | exact trivial | refine ⟨rfl, ?_⟩

set_option maxHeartbeats 2000000 in
theorem cover_tree_receiver_w (p0 : Tcover_tree) (p1 : Int)  (r : Bool) (hm : cover_tree_receiver p0 p1 = some r) (w : World)   :
    Calls Try.prog 92 [.agg (Tcover_tree.cs p0).toArray, .int .i64 p1].toArray w fun e w' => ∃ v, e = .returned v ∧ (v = .bool r ∧ Gr w w') := by
  unfold cover_tree_receiver at hm
  refine calls_of_sw (R := fun v w' => v = .bool r ∧ Gr w w') 13 Try.func92 rfl rfl rfl ?_
  refine sw_seq ?_
  -- region 0 tree.go:71
  refine sw_region [(0, 0), (1, 0)] rfl rfl rfl ?_
  refine sd_ev rfl rfl rfl (ev_box (cs := Tcover_tree.cs p0) rfl rfl) ?_
  rintro _ w1 ⟨b1, rfl, hbw1, Bw1, Gw1⟩
  have z1 := Gw1.size
  have lt2 := Bw1.lt
  refine sd_vv rfl rfl rfl (vv_assign rfl) ?_
  refine sd_done ?_
  refine sw_seq ?_
  -- region 1 tree.go:71
  refine sw_region [(0, 0), (1, 0), (2, 0), (3, 0), (4, 0), (5, 0), (6, 0), (7, 0), (8, 0)] rfl rfl rfl ?_
  refine sd_vv rfl rfl rfl (vv_move rfl) ?_
  refine sd_vv rfl rfl rfl (vv_geq (a := p1) (b := 0) rfl rfl) ?_
  refine sd_split rfl rfl rfl (vv_move rfl) (fun c1 => ?_) (fun c1 => ?_)
  ·
    replace hm := ite_t (of_decide_eq_true c1) hm
    refine sd_vv rfl rfl rfl (vv_move rfl) ?_
    refine sd_vv rfl rfl rfl (vv_loadW agg_134 rfl Bw1 rfl) ?_
    have hb := bnd hm; clear hm; obtain ⟨x1, hx1, hm⟩ := hb
    refine sd_ev rfl rfl rfl (ev_call en_123 rfl (cover_tree_size_w p0 _ hx1 _)) ?_
    rintro _ w2 ⟨rfl, Gw2⟩
    have z3 := Gw2.size
    refine sd_vv rfl rfl rfl (vv_lss (a := p1) (b := x1) rfl rfl) ?_
    refine sd_vv rfl rfl rfl (vv_pickT rfl rfl) ?_
    refine sd_vv rfl rfl rfl (vv_assign rfl) ?_
    refine sd_done ?_
    refine sw_ret ?_
    have X4 : Gr w w2 := (Gr.trans (Gr.trans (Gr.refl w) Gw1) Gw2)
    have hr := Option.some.inj hm
    subst hr
    refine ⟨_, _, rfl, res_1 rfl (rv_tmp rfl), ?_⟩
    exact ⟨rfl, X4⟩
  ·
    replace hm := ite_f (of_decide_eq_false c1) hm
    refine sd_skip rfl rfl rfl ?_
    refine sd_skip rfl rfl rfl ?_
    refine sd_skip rfl rfl rfl ?_
    refine sd_skip rfl rfl rfl ?_
    refine sd_vv rfl rfl rfl (vv_pickF rfl rfl) ?_
    refine sd_vv rfl rfl rfl (vv_assign rfl) ?_
    refine sd_done ?_
    refine sw_ret ?_
    have X5 : Gr w w1 := (Gr.trans (Gr.refl w) Gw1)
    have hr := Option.some.inj hm
    subst hr
    refine ⟨_, _, rfl, res_1 rfl (rv_tmp rfl), ?_⟩
    exact ⟨rfl, X5⟩

set_option maxHeartbeats 2000000 in
theorem cover_tree_labels_w (p0 : Tcover_tree) (p1 : Int)  (r : Tcover_tree × Int) (hm : cover_tree_labels p0 p1 = some r) (w : World)   :
    Calls Try.prog 82 [.agg (Tcover_tree.cs p0).toArray, .int .i64 p1].toArray w fun e w' => ∃ v, e = .returned v ∧ (∃ (bc0 : Nat) (bc1 : Nat), v = .func (.func 129) #[] [.pointer (some ⟨bc0, 0, none⟩), .pointer (some ⟨bc1, 0, none⟩)].toArray ∧ Bx w' bc0 134 (Tcover_tree.cs r.1) ∧ (w.heap.size ≤ bc0) ∧ Bx w' bc1 3 ([.int .i64 r.2]) ∧ (w.heap.size ≤ bc1) ∧ Gr w w') := by
  unfold cover_tree_labels at hm
  refine calls_of_sw (R := fun v w' => ∃ (bc0 : Nat) (bc1 : Nat), v = .func (.func 129) #[] [.pointer (some ⟨bc0, 0, none⟩), .pointer (some ⟨bc1, 0, none⟩)].toArray ∧ Bx w' bc0 134 (Tcover_tree.cs r.1) ∧ (w.heap.size ≤ bc0) ∧ Bx w' bc1 3 ([.int .i64 r.2]) ∧ (w.heap.size ≤ bc1) ∧ Gr w w') 6 Try.func82 rfl rfl rfl ?_
  refine sw_seq ?_
  -- region 0 tree.go:132
  refine sw_region [(0, 0), (1, 0), (2, 0)] rfl rfl rfl ?_
  refine sd_ev rfl rfl rfl (ev_box (cs := Tcover_tree.cs p0) rfl rfl) ?_
  rintro _ w1 ⟨b1, rfl, hbw1, Bw1, Gw1⟩
  have z1 := Gw1.size
  have lt2 := Bw1.lt
  refine sd_ev rfl rfl rfl (ev_box (cs := [.int .i64 p1]) rfl rfl) ?_
  rintro _ w2 ⟨b2, rfl, hbw2, Bw2, Gw2⟩
  have z3 := Gw2.size
  have lt4 := Bw2.lt
  refine sd_vv rfl rfl rfl (vv_assign rfl) ?_
  refine sd_done ?_
  refine sw_seq ?_
  -- region 1 tree.go:133
  refine sw_region [(0, 0), (1, 0)] rfl rfl rfl ?_
  refine sd_vv rfl rfl rfl (vv_makeFunc rfl rfl) ?_
  refine sd_vv rfl rfl rfl (vv_assign rfl) ?_
  refine sd_done ?_
  refine sw_ret ?_
  have B5 := (Bx.gr Bw1 Gw2)
  have X6 : Gr w w2 := (Gr.trans (Gr.trans (Gr.refl w) Gw1) Gw2)
  have hr := Option.some.inj hm
  subst hr
  refine ⟨_, _, rfl, res_1 rfl (rv_tmp rfl), ?_⟩
  exact ⟨b1, b2, rfl, B5, by omega, Bw2, by omega, X6⟩

set_option maxHeartbeats 2000000 in
theorem cover_node_sibling_w (p0 : Int)  (r : Int) (hm : cover_node_sibling p0 = some r) (w : World)   :
    Calls Try.prog 78 [.int .i64 p0].toArray w fun e w' => ∃ v, e = .returned v ∧ (v = .int .i64 r ∧ Gr w w') := by
  unfold cover_node_sibling at hm
  refine calls_of_sw (R := fun v w' => v = .int .i64 r ∧ Gr w w') 5 Try.func78 rfl rfl rfl ?_
  refine sw_seq ?_
  -- region 0 tree.go:25
  refine sw_region [(0, 0)] rfl rfl rfl ?_
  refine sd_vv rfl rfl rfl (vv_assign rfl) ?_
  refine sd_done ?_
  refine sw_seq ?_
  -- region 1 tree.go:25
  refine sw_region [(0, 0), (1, 0), (2, 0)] rfl rfl rfl ?_
  refine sd_vv rfl rfl rfl (vv_move rfl) ?_
  refine sd_vv rfl rfl rfl (vv_bitI (a := p0) (b := 1) (by simp) rfl rfl) ?_
  refine sd_vv rfl rfl rfl (vv_assign rfl) ?_
  refine sd_done ?_
  refine sw_ret ?_
  have hr := Option.some.inj hm
  subst hr
  refine ⟨_, _, rfl, res_1 rfl (rv_tmp rfl), ?_⟩
  exact ⟨rfl, (Gr.refl w)⟩

set_option maxHeartbeats 2000000 in
theorem cover_tree_labels_1_it (p1 : Tcover_tree) (p2 : Int) (bp1 : Nat) (bp2 : Nat) (xs : List (Int × Int)) (hm : cover_tree_labels_1 p1 p2 = some xs) (w0 : World) (hbp1 : Bx w0 bp1 134 (Tcover_tree.cs p1)) (hbp2 : Bx w0 bp2 3 ([.int .i64 p2])) :
    IT Try.prog 129 [.pointer (some ⟨bp1, 0, none⟩), .pointer (some ⟨bp2, 0, none⟩)] (xs.map (fun (x : Int × Int) => ([.int .i64 x.1, .int .i64 x.2] : List Value))) ([bp1] ++ [bp2]) w0 := by
  intro l J Jx w fp hG hJ hJx hcap h0 hY
  have c1 := Bx.gr hbp1 hG
  have lt2 := c1.lt
  have nb3 : bp1 ∉ fp := hcap _ (by simp)
  have c4 := Bx.gr hbp2 hG
  have lt5 := c4.lt
  have nb6 : bp2 ∉ fp := hcap _ (by simp)
  have hd := dr_0 xs
  unfold cover_tree_labels_1 at hm
  refine calls_of_sw (R := fun v w' => Kp fp w w' ∧ ((∃ fp', (∀ c ∈ fp', c ∈ fp ∨ w.heap.size ≤ c) ∧ J (xs.map (fun (x : Int × Int) => ([.int .i64 x.1, .int .i64 x.2] : List Value))).length fp' w') ∨ (∃ j fp', (∀ c ∈ fp', c ∈ fp ∨ w.heap.size ≤ c) ∧ j ≤ (xs.map (fun (x : Int × Int) => ([.int .i64 x.1, .int .i64 x.2] : List Value))).length ∧ Jx j fp' w'))) 48 Try.func129 rfl rfl rfl ?_
  refine sw_seq ?_
  -- region 0 tree.go:133
  refine sw_region [(0, 0)] rfl rfl rfl ?_
  refine sd_ev rfl rfl rfl (ev_box rfl rfl) ?_
  rintro _ w1 ⟨b1, rfl, hbw1, Bw1, Gw1⟩
  have z7 := Gw1.size
  have lt8 := Bw1.lt
  have nb9 : b1 ∉ fp := fun h => absurd (hJ.lt h0 _ h) (by omega)
  refine sd_done ?_
  refine sw_seq ?_
  -- region 1 tree.go:134
  refine sw_region [(0, 0), (1, 0), (2, 0), (3, 0)] rfl rfl rfl ?_
  have B10 := (Bx.gr c1 Gw1)
  refine sd_vv rfl rfl rfl (vv_loadW agg_134 rfl B10 rfl) ?_
  have B11 := (Bx.gr c4 Gw1)
  refine sd_vv rfl rfl rfl (vv_load1 (v := .int .i64 p2) one_3 rfl B11 rfl) ?_
  have hb := bnd hm; clear hm; obtain ⟨x1, hx1, hm⟩ := hb
  refine sd_ev rfl rfl rfl (ev_call en_112 rfl (cover_tree_leaf_w p1 p2 _ hx1 _)) ?_
  rintro _ w2 ⟨rfl, Gw2⟩
  have J12 := (hJ.gr h0 Gw1)
  have z13 := Gw2.size
  refine sd_vv rfl rfl rfl (vv_assign rfl) ?_
  refine sd_done ?_
  refine sw_seq ?_
  refine sw_seq ?_
  -- region 2 tree.go:135
  refine sw_region [(0, 0), (1, 0), (2, 0)] rfl rfl rfl ?_
  have B14 := (Bx.gr Bw1 Gw2)
  refine sd_vv rfl rfl rfl (vv_load1 one_188 rfl B14 rfl) ?_
  have J16 := (hJ.gr J12 Gw2)
  have KI17 : Kp fp w w2 := (Kp.gr (Kp.gr (Kp.refl fp w) Gw1) Gw2)
  obtain ⟨rr15, hm, he15⟩ := yl_some hm
  have hx15 := Dr.at hd he15
  have hd15 := Dr.next hd he15
  have B18 := (Bx.gr B10 Gw2)
  have B19 := (Bx.gr B11 Gw2)
  refine sd_ev rfl rfl rfl (ev_yield rfl rfl (hY _ _ _ _ (getm hx15) J16 KI17 (fun c hc => Or.inl hc))) ?_
  rintro _ w3 ⟨bb, rfl, KF15, fp15, hg15, hJb⟩
  have z20 := KF15.size
  have sub15 : ∀ c ∈ fp15, c ∈ fp ∨ w.heap.size ≤ c := sub_grow (fun c hc => Or.inl hc) hg15 (by omega)
  have nb21 := notin_grow hg15 nb3 (by omega)
  have nb22 := notin_grow hg15 nb6 (by omega)
  have nb23 := notin_grow hg15 nb9 (by omega)
  cases bb
  ·
    have Jy15 : Jx (0 + 1) fp15 w3 := hJb
    refine sd_vv rfl rfl rfl (vv_not rfl) ?_
    refine sd_done ?_
    refine sw_condT rfl ?_
    refine sw_ret ?_
    refine then_r ?_
    have KI24 : Kp fp w w3 := (Kp.trans KI17 KF15 (fun c hc => Or.inl hc))
    exact ⟨_, _, rfl, res_none rfl, KI24, .inr ⟨_, _, sub15, (by rw [List.length_map]; exact (List.getElem?_eq_some_iff.1 hx15).1), Jy15⟩⟩
  ·
    have Jy15 : J (0 + 1) fp15 w3 := hJb
    refine sd_vv rfl rfl rfl (vv_not rfl) ?_
    refine sd_done ?_
    refine sw_condF rfl ?_
    refine sw_skip ?_
    refine then_n ?_
    refine sw_seq ?_
    -- region 3 tree.go:138
    refine sw_region [(0, 0), (1, 0)] rfl rfl rfl ?_
    refine sd_ev rfl rfl rfl (ev_alloc (cs := [.int .i64 0]) zv_139 rfl) ?_
    rintro _ w4 ⟨b4, rfl, hbw4, Bw4, Gw4⟩
    have z25 := Gw4.size
    have lt26 := Bw4.lt
    have nb27 : b4 ∉ fp15 := fun h => absurd (hJ.lt Jy15 _ h) (by omega)
    refine sd_ev rfl rfl rfl (ev_st1 (cs' := [.int .i64 1]) (one_139).siz rfl rfl rfl Bw4 rfl rfl) ?_
    rintro _ w5 ⟨Bw5, Mw5⟩
    have z28 := Mw5.size
    refine sd_done ?_
    refine sw_block ?_
    have J29 := (hJ.md (hJ.gr Jy15 Gw4) Mw5 nb27)
    have KI30 : Kp fp w w5 := (Kp.md (Kp.gr (Kp.trans KI17 KF15 (fun c hc => Or.inl hc)) Gw4) Mw5 (Or.inr (by omega)))
    have B31 := (Bx.md (Bx.gr (Bx.kp B18 KF15 nb3) Gw4) Mw5)
    have B32 := (Bx.md (Bx.gr (Bx.kp B19 KF15 nb6) Gw4) Mw5)
    have B33 := (Bx.md (Bx.gr (Bx.kp B14 KF15 nb9) Gw4) Mw5)
    refine sw_loopK (α := Nat × Int × Nat × Nat × List Nat × List (Int × Int)) [5, 6, 7, 14, 15, 16, 17, 18, 19, 20, 21, 22, 23, 24, 25, 26, 27, 28, 29, 30, 31, 32, 33, 34, 35, 36, 37, 38, 39, 40, 41, 42, 43, 44, 45, 46, 47] (fun ⟨n1, a2, bq1_5, kk, fpl, rl⟩ => [(5, .pointer (some ⟨bq1_5, 0, none⟩))]) (fun ⟨n1, a2, bq1_5, kk, fpl, rl⟩ ks wr => (fixN (cover_tree_labels_1_L1 p1 x1) n1 a2 = some rl) ∧ Dr xs kk rl ∧ J kk fpl wr ∧ (∀ c ∈ fpl, c ∈ fp ∨ w.heap.size ≤ c) ∧ Kp fp w wr ∧ Bx wr bp1 134 (Tcover_tree.cs p1) ∧ Bx wr bp2 3 ([.int .i64 p2]) ∧ Bx wr b1 188 [.func (.yield l) #[] #[]] ∧ bp1 ∉ fpl ∧ bp2 ∉ fpl ∧ b1 ∉ fpl ∧ Bx wr bq1_5 139 ([.int .i64 a2]) ∧ bq1_5 ∉ fpl ∧ w.heap.size ≤ bq1_5 ∧ bq1_5 ≠ bp1 ∧ bq1_5 ≠ bp2 ∧ bq1_5 ≠ b1 ∧ MkI w.heap.size ks fpl wr) (fun ⟨n1, a2, bq1_5, kk, fpl, rl⟩ => n1) ⟨FUEL, 1, b4, (0 + 1), fp15, rr15⟩ [] rfl ?_ ?_ ?_
    · repeat' first | exact trivial | refine ⟨rfl, ?_⟩
    · exact ⟨hm, hd15, J29, sub15, KI30, B31, B32, B33, nb21, nb22, nb23, Bw5, nb27, (by omega), (by omega), (by omega), (by omega), (mki_nil w.heap.size fp15 w5)⟩
    · clear hm; rintro ⟨n1, a2, bq1_5, kk1, fpl1, rl1⟩ ks1 w6 ⟨hm, dl1, JLw6, sl1, KLw6, Sw6_0, Sw6_1, Sw6_2, Nw6_0, Nw6_1, Nw6_2, Pw6_0, Pw6_1, Pw6_2, Pw6_3, Pw6_4, Pw6_5, MKw6⟩
      have z34 := KLw6.size
      have lt35 := Sw6_0.lt
      have lt36 := Sw6_1.lt
      have lt37 := Sw6_2.lt
      have lt38 := Pw6_0.lt
      have hb := fix_succ hm; clear hm; obtain ⟨n1, rfl, hm⟩ := hb
      generalize hrec1 : fixN (cover_tree_labels_1_L1 p1 x1) n1 = rec1 at hm
      unfold cover_tree_labels_1_L1 at hm
      try dsimp only at hm
      refine sw_seq ?_
      refine sw_seq ?_
      -- region 4 tree.go:138
      refine sw_region [(0, 0), (1, 0), (2, 0)] rfl rfl rfl ?_
      refine sd_vv rfl rfl rfl (vv_load1 (v := .int .i64 a2) one_139 rfl Pw6_0 rfl) ?_
      refine sd_vv rfl rfl rfl (vv_move rfl) ?_
      refine sd_vv rfl rfl rfl (vv_neq (a := a2) (b := x1) rfl rfl) ?_
      refine sd_done ?_
      refine sw_cond rfl (fun c1 => ?_) (fun c1 => ?_)
      ·
        replace hm := ite_t (of_decide_eq_true c1) hm
        refine sw_skip ?_
        refine then_n ?_
        refine sw_seq ?_
        refine sw_block ?_
        refine sw_seq ?_
        refine sw_seq ?_
        -- region 6 tree.go:139
        refine sw_region [(0, 0), (1, 0), (2, 0)] rfl rfl rfl ?_
        refine sd_vv rfl rfl rfl (vv_fieldAddr fa_134_0 rfl) ?_
        refine sd_vv rfl rfl rfl (vv_load1 (v := bv p1.kind) one_5 rfl Sw6_0 rfl) ?_
        refine sd_vv rfl rfl rfl (vv_eqlB (p := p1.kind) (q := 1#8) rfl rfl) ?_
        refine sd_done ?_
        refine sw_cond rfl (fun c2 => ?_) (fun c2 => ?_)
        ·
          replace hm := ite_t (of_decide_eq_true c2) hm
          refine sw_seq ?_
          refine sw_seq ?_
          -- region 7 tree.go:140 DRAWS
          refine sw_drawN [fpl1] [] (.leaf [(0, 10), (1, 10), (2, 10), (3, 0), (4, 0), (5, 0)]) (by kernel_rfl) (by kernel_rfl) rfl (by kernel_rfl) ?_
          intro w7 Gw7 zw7
          refine sdz_leaf ?_
          have B39 := (Bx.gr Sw6_2 Gw7)
          refine dd_hn 0 rfl rfl rfl rfl (Kp.refl fpl1 w7) (fun w hS => vv_load1 one_188 rfl (Bx.kp B39 hS Nw6_2) rfl) ?_
          have B40 := (Bx.gr Pw6_0 Gw7)
          refine dd_hn 0 rfl rfl rfl rfl (Kp.refl fpl1 w7) (fun w hS => vv_load1 (v := .int .i64 a2) one_139 rfl (Bx.kp B40 hS Pw6_1) rfl) ?_
          refine dd_hn 0 rfl rfl rfl rfl (Kp.refl fpl1 w7) (fun w hS => vv_move rfl) ?_
          have hb := bnd hm; clear hm; obtain ⟨x3, hx3, hm⟩ := hb
          refine dd_z [] rfl rfl rfl (ev_call en_77 rfl (cover_node_toward_w a2 x1 _ hx3 _)) ⟨fun _ => tk0, trivial⟩ ?_
          rintro _ w8 ⟨rfl, Gw8⟩
          have J41 := (hJ.gr JLw6 Gw7)
          have z42 := Gw8.size
          refine ⟨Kz.ofGr Gw8, ?_⟩
          have J44 := (hJ.gr J41 Gw8)
          have KI45 : Kp fp w w8 := (Kp.gr (Kp.gr KLw6 Gw7) Gw8)
          obtain ⟨rr43, hm, he43⟩ := yl_some hm
          have hx43 := Dr.at dl1 he43
          have hd43 := Dr.next dl1 he43
          have B46 := (Bx.gr (Bx.gr Sw6_0 Gw7) Gw8)
          have B47 := (Bx.gr (Bx.gr Sw6_1 Gw7) Gw8)
          have B48 := (Bx.gr B39 Gw8)
          have B49 := (Bx.gr B40 Gw8)
          refine dd_y rfl rfl rfl (ev_yield rfl rfl (hY _ _ _ _ (getm hx43) J44 KI45 sl1)) ?_
          rintro _ w9 ⟨bb, rfl, KF43, fp43, hg43, hJb⟩
          refine ⟨fun S => Kp.trans S KF43 (fun b hb => Or.inl hb), ?_⟩
          have z50 := KF43.size
          have sub43 : ∀ c ∈ fp43, c ∈ fp ∨ w.heap.size ≤ c := sub_grow sl1 hg43 (by omega)
          have MK51 := (MkI.gr (MkI.gr MKw6 Gw7) Gw8)
          have MK43 := MkI.kp MK51 KF43 hg43
          have nb52 := notin_grow hg43 Nw6_0 (by omega)
          have nb53 := notin_grow hg43 Nw6_1 (by omega)
          have nb54 := notin_grow hg43 Nw6_2 (by omega)
          have nb55 := notin_grow hg43 Pw6_1 (by omega)
          cases bb
          ·
            have Jy43 : Jx (kk1 + 1) fp43 w9 := hJb
            refine dd_vz rfl rfl rfl (vv_not rfl) ?_
            refine sd_done ?_
            refine sw_condT rfl ?_
            refine sw_ret ?_
            refine then_r ?_
            refine then_r ?_
            refine block_r ?_
            refine then_r ?_
            refine then_r ?_
            refine block_r ?_
            have KI56 : Kp fp w w9 := (Kp.trans KI45 KF43 sl1)
            obtain ⟨wl57, lv57, kl57⟩ := MkI.leave MK43
            have Jl57 := MkI.stb hJx MK43 Jy43 kl57
            have Kl57 := MkI.trans MK43 KI56 kl57
            exact ⟨_, _, lv57, res_none rfl, Kl57, .inr ⟨_, _, sub43, (by rw [List.length_map]; exact (List.getElem?_eq_some_iff.1 hx43).1), Jl57⟩⟩
          ·
            have Jy43 : J (kk1 + 1) fp43 w9 := hJb
            refine dd_vz rfl rfl rfl (vv_not rfl) ?_
            refine sd_done ?_
            refine sw_condF rfl ?_
            refine sw_skip ?_
            refine then_n ?_
            refine sw_exit ?_
            refine then_x ?_
            refine block_x ?_
            refine then_n ?_
            refine sw_seq ?_
            refine sw_seq ?_
            -- region 12 tree.go:138
            refine sw_region [(0, 0)] rfl rfl rfl ?_
            have B58 := (Bx.kp B49 KF43 Pw6_1)
            refine sd_vv rfl rfl rfl (vv_load1 (v := .int .i64 a2) one_139 rfl B58 rfl) ?_
            refine sd_done ?_
            -- region 13 tree.go:138
            refine sw_region [(0, 0), (1, 0)] rfl rfl rfl ?_
            refine sd_ev rfl rfl rfl (ev_alloc (cs := [.int .i64 0]) zv_139 rfl) ?_
            rintro _ w10 ⟨b10, rfl, hbw10, Bw10, Gw10⟩
            have z59 := Gw10.size
            have lt60 := Bw10.lt
            have nb61 : b10 ∉ fp43 := fun h => absurd (hJ.lt Jy43 _ h) (by omega)
            refine sd_ev rfl rfl rfl (ev_st1 (cs' := [.int .i64 a2]) (one_139).siz rfl rfl rfl Bw10 rfl rfl) ?_
            rintro _ w11 ⟨Bw11, Mw11⟩
            have J62 := (hJ.gr Jy43 Gw10)
            have MK63 := (MkI.gr MK43 Gw10)
            have z64 := Mw11.size
            refine sd_done ?_
            -- region 5 tree.go:138
            refine sw_region [(0, 0), (1, 0), (2, 0), (3, 0)] rfl rfl rfl ?_
            refine sd_vv rfl rfl rfl (vv_load1 (v := .int .i64 a2) one_139 rfl Bw11 rfl) ?_
            refine sd_vv rfl rfl rfl (vv_move rfl) ?_
            have hb := bnd hm; clear hm; obtain ⟨x4, hx4, hm⟩ := hb
            refine sd_ev rfl rfl rfl (ev_call en_77 rfl (cover_node_toward_w a2 x1 _ hx4 _)) ?_
            rintro _ w12 ⟨rfl, Gw12⟩
            have J65 := (hJ.md J62 Mw11 nb61)
            have z66 := Gw12.size
            have B67 := (Bx.gr Bw11 Gw12)
            refine sd_ev rfl rfl rfl (ev_st1 (cs' := [.int .i64 x4]) (one_139).siz rfl rfl rfl B67 rfl rfl) ?_
            rintro _ w13 ⟨Bw13, Mw13⟩
            have J68 := (hJ.gr J65 Gw12)
            have MK69 := (MkI.gr (MkI.md MK63 Mw11 Bw10) Gw12)
            have z70 := Mw13.size
            refine sd_nil ?_
            have J71 := (hJ.md J68 Mw13 nb61)
            have KI72 : Kp fp w w13 := (Kp.md (Kp.gr (Kp.md (Kp.gr (Kp.trans KI45 KF43 sl1) Gw10) Mw11 (Or.inr (by omega))) Gw12) Mw13 (Or.inr (by omega)))
            have B73 := (Bx.md (Bx.gr (Bx.md (Bx.gr (Bx.kp B46 KF43 Nw6_0) Gw10) Mw11) Gw12) Mw13)
            have B74 := (Bx.md (Bx.gr (Bx.md (Bx.gr (Bx.kp B47 KF43 Nw6_1) Gw10) Mw11) Gw12) Mw13)
            have B75 := (Bx.md (Bx.gr (Bx.md (Bx.gr (Bx.kp B48 KF43 Nw6_2) Gw10) Mw11) Gw12) Mw13)
            have MK76 := (MkI.md MK69 Mw13 B67)
            subst hrec1
            refine ⟨⟨n1, x4, b10, (kk1 + 1), fp43, rr43⟩, ks1, rfl, ?_, ⟨hm, hd43, J71, sub43, KI72, B73, B74, B75, nb52, nb53, nb54, Bw13, nb61, (by omega), (by omega), (by omega), (by omega), MK76⟩, Nat.lt_succ_self _⟩
            repeat' first | exact trivial | refine ⟨rfl, ?_⟩
        ·
          replace hm := ite_f (of_decide_eq_false c2) hm
          refine sw_skip ?_
          refine then_n ?_
          refine sw_seq ?_
          -- region 8 tree.go:145
          refine sw_region [(0, 0), (1, 0), (2, 0)] rfl rfl rfl ?_
          refine sd_vv rfl rfl rfl (vv_load1 (v := .int .i64 a2) one_139 rfl Pw6_0 rfl) ?_
          refine sd_vv rfl rfl rfl (vv_move rfl) ?_
          have hb := bnd hm; clear hm; obtain ⟨x5, hx5, hm⟩ := hb
          refine sd_ev rfl rfl rfl (ev_call en_128 rfl (cover_path_w a2 x1 _ hx5 _)) ?_
          rintro _ w14 ⟨k14_c0_0, k14_c0_1, rfl, O14_c0_0, f14_c0_0, O14_c0_1, f14_c0_1, Gw14⟩
          have z77 := Gw14.size
          have lt78 := O14_c0_0.lt
          have nb79 : k14_c0_0 ∉ fpl1 := fun h => absurd (hJ.lt JLw6 _ h) (by omega)
          have lt80 := O14_c0_1.lt
          have nb81 : k14_c0_1 ∉ fpl1 := fun h => absurd (hJ.lt JLw6 _ h) (by omega)
          refine sd_done ?_
          refine sw_block ?_
          have hb := bnd hm; clear hm; obtain ⟨l6, hl6, hm⟩ := hb
          have J82 := (hJ.gr JLw6 Gw14)
          have KI83 : Kp fp w w14 := (Kp.gr KLw6 Gw14)
          have B84 := (Bx.gr Sw6_0 Gw14)
          have B85 := (Bx.gr Sw6_1 Gw14)
          have B86 := (Bx.gr Sw6_2 Gw14)
          have B87 := (Bx.gr Pw6_0 Gw14)
          have MK88 := (MkI.gr MKw6 Gw14)
          have MZ89 := MK88
          refine sw_rangeFunc (gf := 155) rfl en_155 (cover_path_1_it x5.1 x5.2 _ _ _ hl6 _ O14_c0_0 O14_c0_1) (by intro x hx; obtain ⟨a, _, rfl⟩ := List.mem_map.1 hx; rfl) rfl _ _ fpl1 (stb_mk (α := Nat × List Nat × (List (Int × Int))) (fun ⟨kk, fpl, rl⟩ rk => (itL (cover_tree_labels_1_R2 p1 a2) (cover_tree_labels_1_D2 x1 a2 rec1) (List.drop rk l6) () = some rl) ∧ Dr xs kk rl ∧ (∀ c ∈ fpl, c ∈ fp ∨ w.heap.size ≤ c) ∧ (∀ c ∈ fpl, c ∈ fpl1 ∨ w14.heap.size ≤ c)) (fun ⟨kk, fpl, rl⟩ => fpl) (fun ⟨kk, fpl, rl⟩ W => J kk fpl W) (by rintro ⟨kk, fpl, rl⟩ W h b hb; exact hJ.lt h b hb) (by rintro ⟨kk, fpl, rl⟩ W W' h he hs; exact hJ.keep h he hs)) (fun c => stb_c (c = .ret) (stb_mk (α := Nat × List Nat) (fun ⟨kk, fpl⟩ rk => kk ≤ xs.length ∧ (∀ c ∈ fpl, c ∈ fp ∨ w.heap.size ≤ c) ∧ (∀ c ∈ fpl, c ∈ fpl1 ∨ w14.heap.size ≤ c)) (fun ⟨kk, fpl⟩ => fpl) (fun ⟨kk, fpl⟩ W => Jx kk fpl W) (by rintro ⟨kk, fpl⟩ W h b hb; exact hJx.lt h b hb) (by rintro ⟨kk, fpl⟩ W W' h he hs; exact hJx.keep h he hs))) (by intro b hb; simp only [List.mem_cons, List.mem_append, mem_zf, List.not_mem_nil, or_false, false_or, not_or, ne_eq, List.nil_append, List.cons_append, true_and, and_true, false_and, and_false, not_true_eq_false, not_false_eq_true, or_true, true_or] at hb; rcases hb with rfl | rfl <;> first | exact ⟨nb79, by omega⟩ | exact ⟨nb81, by omega⟩) ⟨(kk1, fpl1, rl1), ⟨hm, dl1, sl1, fun c hc => Or.inl hc⟩, rfl, J82⟩ ?_ ?_ ?_
          · rintro l2 rk x fpr2 w15 hl hx hIr Kw15 hF hln hlt
            clear hm
            obtain ⟨e7, hxe, rfl⟩ := map_some hx
            obtain ⟨⟨_, fpa, _⟩, ⟨_, _, sa, sz⟩, ea, Ja⟩ := hIr
            replace ea : fpr2 = fpa := ea
            subst ea
            replace Ja : J _ fpr2 w15 := Ja
            have z90 := Kw15.size
            have nb91 := notin_grow hF Nw6_0 (by omega)
            have nb92 := notin_grow hF Nw6_1 (by omega)
            have nb93 := notin_grow hF Nw6_2 (by omega)
            have nb94 := notin_grow hF Pw6_1 (by omega)
            have nb95 := notin_grow hF nb79 (by omega)
            have nb96 := notin_grow hF nb81 (by omega)
            have MKw15 := MkI.kp MZ89 Kw15 hF
            -- region 9 tree.go:145
            refine sw_region [(0, 0)] rfl rfl rfl ?_
            refine sd_vv rfl rfl rfl (vv_assign rfl) ?_
            refine sd_nil ?_
            refine ⟨rfl, (Gr.refl _), ?_⟩
            rintro w16 Mw16 ⟨⟨kr2, fpb, rl2⟩, ⟨hm, dr2, sr2, s0r2⟩, eb, Jr2⟩
            replace eb : fpr2 = fpb := eb
            subst eb
            replace Jr2 : J kr2 fpr2 w16 := Jr2
            have z97 := Mw16.size
            replace hm := itL_at hm hxe
            generalize hnx2 : itL (cover_tree_labels_1_R2 p1 a2) (cover_tree_labels_1_D2 x1 a2 rec1) (List.drop (rk + 1) l6) = nx2 at hm
            unfold cover_tree_labels_1_R2 at hm
            try dsimp only at hm
            refine sw_block ?_
            refine sw_seq ?_
            -- region 10 tree.go:146
            refine sw_region [(0, 0), (1, 0), (2, 0)] rfl rfl rfl ?_
            refine sd_vv rfl rfl rfl (vv_move rfl) ?_
            have hb := bnd hm; clear hm; obtain ⟨x8, hx8, hm⟩ := hb
            refine sd_ev rfl rfl rfl (ev_call en_78 rfl (cover_node_sibling_w e7 _ hx8 _)) ?_
            rintro _ w17 ⟨rfl, Gw17⟩
            have z98 := Gw17.size
            refine sd_vv rfl rfl rfl (vv_assign rfl) ?_
            refine sd_done ?_
            refine sw_seq ?_
            -- region 11 tree.go:147
            refine sw_region [(0, 0), (1, 0), (2, 0), (3, 0), (4, 0), (5, 0), (6, 0), (7, 0), (8, 0), (9, 0), (10, 0), (11, 0)] rfl rfl rfl ?_
            have B99 := (Bx.gr (Bx.md (Bx.kp B84 Kw15 Nw6_0) Mw16) Gw17)
            refine sd_vv rfl rfl rfl (vv_loadW agg_134 rfl B99 rfl) ?_
            have B100 := (Bx.gr (Bx.md (Bx.kp B87 Kw15 Pw6_1) Mw16) Gw17)
            refine sd_vv rfl rfl rfl (vv_load1 (v := .int .i64 a2) one_139 rfl B100 rfl) ?_
            refine sd_vv rfl rfl rfl (vv_move rfl) ?_
            refine sd_vv rfl rfl rfl (vv_build (cs := TSubset.cs (TSubset.mk a2 x8)) bs_47 rfl rfl) ?_
            have hb := bnd hm; clear hm; obtain ⟨x9, hx9, hm⟩ := hb
            refine sd_ev rfl rfl rfl (ev_call en_79 rfl (cover_tree_subset_w p1 (TSubset.mk a2 x8) _ hx9 _)) ?_
            rintro _ w18 ⟨rfl, Gw18⟩
            have J101 := (hJ.gr Jr2 Gw17)
            have z102 := Gw18.size
            refine sd_split rfl rfl rfl (vv_move rfl) (fun c3 => ?_) (fun c3 => ?_)
            ·
              replace hm := cnd_t c3 hm
              have B103 := (Bx.gr (Bx.gr (Bx.md (Bx.kp B86 Kw15 Nw6_2) Mw16) Gw17) Gw18)
              refine sd_vv rfl rfl rfl (vv_load1 one_188 rfl B103 rfl) ?_
              have B104 := (Bx.gr B100 Gw18)
              refine sd_vv rfl rfl rfl (vv_load1 (v := .int .i64 a2) one_139 rfl B104 rfl) ?_
              refine sd_vv rfl rfl rfl (vv_move rfl) ?_
              have J106 := (hJ.gr J101 Gw18)
              have KI107 : Kp fp w w18 := (Kp.gr (Kp.gr (Kp.md (Kp.trans KI83 Kw15 sl1) Mw16 (Or.inr (by omega))) Gw17) Gw18)
              obtain ⟨rr105, hm, he105⟩ := yl_some hm
              have hx105 := Dr.at dr2 he105
              have hd105 := Dr.next dr2 he105
              have B108 := (Bx.gr B99 Gw18)
              have B109 := (Bx.gr (Bx.gr (Bx.md (Bx.kp B85 Kw15 Nw6_1) Mw16) Gw17) Gw18)
              have B110 := (Bx.gr (Bx.gr (Bx.md (Bx.kp O14_c0_0 Kw15 nb79) Mw16) Gw17) Gw18)
              have B111 := (Bx.gr (Bx.gr (Bx.md (Bx.kp O14_c0_1 Kw15 nb81) Mw16) Gw17) Gw18)
              refine sd_ev rfl rfl rfl (ev_yield rfl rfl (hY _ _ _ _ (getm hx105) J106 KI107 sr2)) ?_
              rintro _ w19 ⟨bb, rfl, KF105, fp105, hg105, hJb⟩
              have z112 := KF105.size
              have sub105 : ∀ c ∈ fp105, c ∈ fp ∨ w.heap.size ≤ c := sub_grow sr2 hg105 (by omega)
              have subr105 := sub_grow (fun c hc => Or.inl hc : ∀ c ∈ fpr2, c ∈ fpr2 ∨ w16.heap.size ≤ c) hg105 (by omega)
              have MK113 := (MkI.gr (MkI.gr (MkI.mdl MKw15 Mw16 MZ89 hl) Gw17) Gw18)
              have MK105 := MkI.kp MK113 KF105 hg105
              have nb114 := notin_grow hg105 nb91 (by omega)
              have nb115 := notin_grow hg105 nb92 (by omega)
              have nb116 := notin_grow hg105 nb93 (by omega)
              have nb117 := notin_grow hg105 nb94 (by omega)
              have nb118 := notin_grow hg105 nb95 (by omega)
              have nb119 := notin_grow hg105 nb96 (by omega)
              cases bb
              ·
                have Jy105 : Jx (kr2 + 1) fp105 w19 := hJb
                refine sd_vv rfl rfl rfl (vv_not rfl) ?_
                refine sd_vv rfl rfl rfl (vv_pickT rfl rfl) ?_
                refine sd_done ?_
                refine sw_condT rfl ?_
                refine sw_ret ?_
                refine block_r ?_
                exact ⟨(Kp.trans (Kp.gr (Kp.gr (Kp.refl fpr2 w16) Gw17) Gw18) KF105 (fun c hc => Or.inl hc : ∀ c ∈ fpr2, c ∈ fpr2 ∨ w16.heap.size ≤ c)), fp105, subr105, rfl, ((kr2 + 1), fp105), ⟨(List.getElem?_eq_some_iff.1 hx105).1, sub105, (sub_grow s0r2 subr105 (by omega))⟩, rfl, Jy105⟩
              ·
                have Jy105 : J (kr2 + 1) fp105 w19 := hJb
                refine sd_vv rfl rfl rfl (vv_not rfl) ?_
                refine sd_vv rfl rfl rfl (vv_pickT rfl rfl) ?_
                refine sd_done ?_
                refine sw_condF rfl ?_
                refine sw_skip ?_
                refine block_n ?_
                subst hnx2
                exact ⟨(Kp.trans (Kp.gr (Kp.gr (Kp.refl fpr2 w16) Gw17) Gw18) KF105 (fun c hc => Or.inl hc : ∀ c ∈ fpr2, c ∈ fpr2 ∨ w16.heap.size ≤ c)), fp105, subr105, ((kr2 + 1), fp105, rr105), ⟨hm, hd105, sub105, (sub_grow s0r2 subr105 (by omega))⟩, rfl, Jy105⟩
            ·
              replace hm := cnd_f c3 hm
              refine sd_skip rfl rfl rfl ?_
              refine sd_skip rfl rfl rfl ?_
              refine sd_skip rfl rfl rfl ?_
              refine sd_skip rfl rfl rfl ?_
              refine sd_skip rfl rfl rfl ?_
              refine sd_vv rfl rfl rfl (vv_pickF rfl rfl) ?_
              refine sd_done ?_
              refine sw_condF rfl ?_
              refine sw_skip ?_
              refine block_n ?_
              have J122 := (hJ.gr J101 Gw18)
              subst hnx2
              exact ⟨(Kp.gr (Kp.gr (Kp.refl fpr2 w16) Gw17) Gw18), fpr2, (fun c hc => Or.inl hc : ∀ c ∈ fpr2, c ∈ fpr2 ∨ w16.heap.size ≤ c), (kr2, fpr2, rl2), ⟨hm, dr2, sr2, (sub_grow s0r2 (fun c hc => Or.inl hc : ∀ c ∈ fpr2, c ∈ fpr2 ∨ w16.heap.size ≤ c) (by omega))⟩, rfl, J122⟩
          · clear hm; rintro Dw20 fpdw20 w20 hDw20 Dfw20 nw20 ⟨⟨kd, fpe, rd⟩, ⟨hm, dd, sd, s0d⟩, ed, Jd⟩ Kw20
            replace ed : fpdw20 = fpe := ed
            subst ed
            replace Jd : J kd fpdw20 w20 := Jd
            have z124 := Kw20.size
            have lt125 := Df.lt (w := w20) Dfw20
            have nb126 := notin_grow s0d Nw6_0 (by omega)
            have nb127 := notin_grow s0d Nw6_1 (by omega)
            have nb128 := notin_grow s0d Nw6_2 (by omega)
            have nb129 := notin_grow s0d Pw6_1 (by omega)
            have nb130 := notin_grow s0d nb79 (by omega)
            have nb131 := notin_grow s0d nb81 (by omega)
            have MKw20 := MkI.cons (MkI.kp MZ89 Kw20 s0d) MZ89 hDw20 (by omega) Dfw20 nw20
            replace hm := itL_end hm
            unfold cover_tree_labels_1_D2 at hm
            try dsimp only at hm
            refine block_n ?_
            refine block_n ?_
            refine then_n ?_
            refine sw_seq ?_
            refine sw_seq ?_
            -- region 12 tree.go:138
            refine sw_region [(0, 0)] rfl rfl rfl ?_
            have B132 := (Bx.kp B87 Kw20 Pw6_1)
            refine sd_vv rfl rfl rfl (vv_load1 (v := .int .i64 a2) one_139 rfl B132 rfl) ?_
            refine sd_done ?_
            -- region 13 tree.go:138
            refine sw_region [(0, 0), (1, 0)] rfl rfl rfl ?_
            refine sd_ev rfl rfl rfl (ev_alloc (cs := [.int .i64 0]) zv_139 rfl) ?_
            rintro _ w21 ⟨b21, rfl, hbw21, Bw21, Gw21⟩
            have z133 := Gw21.size
            have lt134 := Bw21.lt
            have nb135 : b21 ∉ fpdw20 := fun h => absurd (hJ.lt Jd _ h) (by omega)
            refine sd_ev rfl rfl rfl (ev_st1 (cs' := [.int .i64 a2]) (one_139).siz rfl rfl rfl Bw21 rfl rfl) ?_
            rintro _ w22 ⟨Bw22, Mw22⟩
            have J136 := (hJ.gr Jd Gw21)
            have MK137 := (MkI.gr MKw20 Gw21)
            have z138 := Mw22.size
            refine sd_done ?_
            -- region 5 tree.go:138
            refine sw_region [(0, 0), (1, 0), (2, 0), (3, 0)] rfl rfl rfl ?_
            refine sd_vv rfl rfl rfl (vv_load1 (v := .int .i64 a2) one_139 rfl Bw22 rfl) ?_
            refine sd_vv rfl rfl rfl (vv_move rfl) ?_
            have hb := bnd hm; clear hm; obtain ⟨x10, hx10, hm⟩ := hb
            refine sd_ev rfl rfl rfl (ev_call en_77 rfl (cover_node_toward_w a2 x1 _ hx10 _)) ?_
            rintro _ w23 ⟨rfl, Gw23⟩
            have J139 := (hJ.md J136 Mw22 nb135)
            have z140 := Gw23.size
            have B141 := (Bx.gr Bw22 Gw23)
            refine sd_ev rfl rfl rfl (ev_st1 (cs' := [.int .i64 x10]) (one_139).siz rfl rfl rfl B141 rfl rfl) ?_
            rintro _ w24 ⟨Bw24, Mw24⟩
            have J142 := (hJ.gr J139 Gw23)
            have MK143 := (MkI.gr (MkI.md MK137 Mw22 Bw21) Gw23)
            have z144 := Mw24.size
            refine sd_nil ?_
            have J145 := (hJ.md J142 Mw24 nb135)
            have KI146 : Kp fp w w24 := (Kp.md (Kp.gr (Kp.md (Kp.gr (Kp.trans KI83 Kw20 sl1) Gw21) Mw22 (Or.inr (by omega))) Gw23) Mw24 (Or.inr (by omega)))
            have B147 := (Bx.md (Bx.gr (Bx.md (Bx.gr (Bx.kp B84 Kw20 Nw6_0) Gw21) Mw22) Gw23) Mw24)
            have B148 := (Bx.md (Bx.gr (Bx.md (Bx.gr (Bx.kp B85 Kw20 Nw6_1) Gw21) Mw22) Gw23) Mw24)
            have B149 := (Bx.md (Bx.gr (Bx.md (Bx.gr (Bx.kp B86 Kw20 Nw6_2) Gw21) Mw22) Gw23) Mw24)
            have MK150 := (MkI.md MK143 Mw24 B141)
            subst hrec1
            refine ⟨⟨n1, x10, b21, kd, fpdw20, rd⟩, (Dw20 :: ks1), rfl, ?_, ⟨hm, dd, J145, sd, KI146, B147, B148, B149, nb126, nb127, nb128, Bw24, nb135, (by omega), (by omega), (by omega), (by omega), MK150⟩, Nat.lt_succ_self _⟩
            repeat' first | exact trivial | refine ⟨rfl, ?_⟩
          · clear hm; rintro Dw25 c rk fpdw25 w25 hDw25 Dfw25 nw25 hle ⟨rfl, ⟨kd, fpe⟩, ⟨led, sd, s0d⟩, ed, Jd⟩ Kw25
            replace ed : fpdw25 = fpe := ed
            subst ed
            replace Jd : Jx kd fpdw25 w25 := Jd
            have z151 := Kw25.size
            have lt152 := Df.lt (w := w25) Dfw25
            have nb153 := notin_grow s0d Nw6_0 (by omega)
            have nb154 := notin_grow s0d Nw6_1 (by omega)
            have nb155 := notin_grow s0d Nw6_2 (by omega)
            have nb156 := notin_grow s0d Pw6_1 (by omega)
            have nb157 := notin_grow s0d nb79 (by omega)
            have nb158 := notin_grow s0d nb81 (by omega)
            have MKw25 := MkI.cons (MkI.kp MZ89 Kw25 s0d) MZ89 hDw25 (by omega) Dfw25 nw25
            refine sw_ret ?_
            refine block_r ?_
            refine block_r ?_
            refine then_r ?_
            refine then_r ?_
            refine block_r ?_
            have KI159 : Kp fp w w25 := (Kp.trans KI83 Kw25 sl1)
            obtain ⟨wl160, lv160, kl160⟩ := MkI.leave MKw25
            have Jl160 := MkI.stb hJx MKw25 Jd kl160
            have Kl160 := MkI.trans MKw25 KI159 kl160
            exact ⟨_, _, lv160, res_none rfl, Kl160, .inr ⟨_, _, sd, (by rw [List.length_map]; exact led), Jl160⟩⟩
      ·
        replace hm := ite_f (of_decide_eq_false c1) hm
        refine sw_exit ?_
        refine then_x ?_
        refine then_x ?_
        refine block_x ?_
        obtain ⟨wl161, lv161, kl161⟩ := MkI.leave MKw6
        have Jl161 := MkI.stb hJ MKw6 JLw6 kl161
        have Kl161 := MkI.trans MKw6 KLw6 kl161
        have he := Option.some.inj hm
        have hl := Dr.last (c := (fun (x : Int × Int) => ([.int .i64 x.1, .int .i64 x.2] : List Value))) dl1 he.symm
        refine ⟨_, _, lv161, res_none rfl, Kl161, .inl ⟨_, sl1, ?_⟩⟩
        rw [← hl]; exact Jl161

set_option maxHeartbeats 2000000 in
theorem cover_Secret_w (p0 : W2) (p1 : TScheme) (p2 : Int)  (r : TSecret × Int) (hm : cover_Secret p0 p1 p2 = some r) (w : World)   :
    Calls Try.prog 40 [kv p0, .agg (TScheme.cs p1).toArray, .int .i64 p2].toArray w fun e w' => ∃ v, e = .returned v ∧ (∃ (ur0_1 : Value) (zr0_1 : Nat) (gr0_1 : Nat), v = .tuple [.agg (TSecret.cs r.1 ur0_1).toArray, .int .i64 r.2].toArray ∧ Own w' zr0_1 gr0_1 81 18 ur0_1 (r.1.Labels.map TLabel.cs) ∧ Hdn (zr0_1 = 0 ∨ w.heap.size ≤ gr0_1) ∧ Gr w w') := by
  unfold cover_Secret at hm
  refine calls_of_sw (R := fun v w' => ∃ (ur0_1 : Value) (zr0_1 : Nat) (gr0_1 : Nat), v = .tuple [.agg (TSecret.cs r.1 ur0_1).toArray, .int .i64 r.2].toArray ∧ Own w' zr0_1 gr0_1 81 18 ur0_1 (r.1.Labels.map TLabel.cs) ∧ Hdn (zr0_1 = 0 ∨ w.heap.size ≤ gr0_1) ∧ Gr w w') 61 Try.func40 rfl rfl rfl ?_
  refine sw_seq ?_
  -- region 0 cover.go:177
  refine sw_region [(0, 0), (1, 0), (2, 0), (3, 0)] rfl rfl rfl ?_
  refine sd_ev rfl rfl rfl (ev_box (cs := kb p0) rfl rfl) ?_
  rintro _ w1 ⟨b1, rfl, hbw1, Bw1, Gw1⟩
  have z1 := Gw1.size
  have lt2 := Bw1.lt
  refine sd_ev rfl rfl rfl (ev_box (cs := TScheme.cs p1) rfl rfl) ?_
  rintro _ w2 ⟨b2, rfl, hbw2, Bw2, Gw2⟩
  have z3 := Gw2.size
  have lt4 := Bw2.lt
  refine sd_ev rfl rfl rfl (ev_alloc (cs := TSecret.cs (TSecret.mk 0 [] (TPoint.mk 0#64 0#64)) (.slice none 0 0)) zv_74 rfl) ?_
  rintro _ w3 ⟨b3, rfl, hbw3, Bw3, Gw3⟩
  have z5 := Gw3.size
  have lt6 := Bw3.lt
  refine sd_vv rfl rfl rfl (vv_assign rfl) ?_
  refine sd_done ?_
  refine sw_seq ?_
  -- region 1 cover.go:178
  refine sw_region [(0, 0), (1, 0), (2, 0), (3, 0), (4, 0), (5, 0), (6, 0), (7, 0)] rfl rfl rfl ?_
  have B7 := (Bx.gr Bw2 Gw3)
  refine sd_vv rfl rfl rfl (vv_loadW agg_45 rfl B7 rfl) ?_
  have hb := bnd hm; clear hm; obtain ⟨x1, hx1, hm⟩ := hb
  refine sd_ev rfl rfl rfl (ev_call en_74 rfl (cover_enter_w p1 ([] : List TSubset) _ _ _ _ _ hx1 _ (Own.rd (own_nil _ 0 47 2)))) ?_
  rintro _ w4 ⟨rfl, Gw4⟩
  have z8 := Gw4.size
  refine sd_vv rfl rfl rfl (vv_move rfl) ?_
  refine sd_vv rfl rfl rfl (vv_extract rfl rfl) ?_
  refine sd_vv rfl rfl rfl (vv_extract rfl rfl) ?_
  refine sd_ev rfl rfl rfl (ev_alloc (cs := Tcover_tree.cs (Tcover_tree.mk 0#8 0 0)) zv_134 rfl) ?_
  rintro _ w5 ⟨b5, rfl, hbw5, Bw5, Gw5⟩
  have z9 := Gw5.size
  have lt10 := Bw5.lt
  refine sd_ev rfl rfl rfl (ev_stM (cs' := Tcover_tree.cs x1.1) (vs := Tcover_tree.cs x1.1) (agg_134).siz rfl rfl rfl rfl rfl Bw5 rfl rfl) ?_
  rintro _ w6 ⟨Bw6, Mw6⟩
  have z11 := Mw6.size
  refine sd_vv rfl rfl rfl (vv_assign rfl) ?_
  refine sd_done ?_
  refine sw_seq ?_
  refine sw_seq ?_
  -- region 2 cover.go:179
  refine sw_region [(0, 0), (1, 0)] rfl rfl rfl ?_
  refine sd_vv rfl rfl rfl (vv_move rfl) ?_
  refine sd_vv rfl rfl rfl (vv_neq (a := x1.2) (b := 0) rfl rfl) ?_
  refine sd_done ?_
  refine sw_cond rfl (fun c1 => ?_) (fun c1 => ?_)
  ·
    replace hm := ite_t (of_decide_eq_true c1) hm
    refine sw_seq ?_
    -- region 3 cover.go:180
    refine sw_region [(0, 0), (1, 0), (2, 0), (3, 0)] rfl rfl rfl ?_
    refine sd_vv rfl rfl rfl (vv_build (cs := TSecret.cs (TSecret.mk 0 [] (TPoint.mk 0#64 0#64)) (.slice none 0 0)) bs_74 rfl rfl) ?_
    refine sd_vv rfl rfl rfl (vv_move rfl) ?_
    have B12 := (Bx.md (Bx.gr (Bx.gr Bw3 Gw4) Gw5) Mw6)
    refine sd_ev rfl rfl rfl (ev_stM (cs' := TSecret.cs (TSecret.mk 0 [] (TPoint.mk 0#64 0#64)) (.slice none 0 0)) (vs := TSecret.cs (TSecret.mk 0 [] (TPoint.mk 0#64 0#64)) (.slice none 0 0)) (agg_74).siz rfl rfl rfl rfl (TSecret.cs_ones _ _ rfl) B12 rfl rfl) ?_
    rintro _ w7 ⟨Bw7, Mw7⟩
    have z13 := Mw7.size
    refine sd_vv rfl rfl rfl (vv_assign rfl) ?_
    refine sd_done ?_
    refine sw_ret ?_
    refine then_r ?_
    have X14 : Gr w w7 := (Gr.md (Gr.md (Gr.trans (Gr.trans (Gr.trans (Gr.trans (Gr.trans (Gr.refl w) Gw1) Gw2) Gw3) Gw4) Gw5) Mw6) Mw7)
    have hr := Option.some.inj hm
    subst hr
    refine ⟨_, _, rfl, res_2 rfl (rv_cellW agg_74 rfl Bw7 rfl) (rv_tmp rfl), ?_⟩
    exact ⟨(.slice none 0 0), 0, 0, rfl, (own_nil _ 0 81 18), ⟨.inl rfl⟩, X14⟩
  ·
    replace hm := ite_f (of_decide_eq_false c1) hm
    refine sw_skip ?_
    refine then_n ?_
    refine sw_seq ?_
    refine sw_seq ?_
    -- region 4 cover.go:182
    refine sw_region [(0, 0), (1, 0), (2, 0), (3, 0)] rfl rfl rfl ?_
    refine sd_vv rfl rfl rfl (vv_loadW agg_134 rfl Bw6 rfl) ?_
    refine sd_vv rfl rfl rfl (vv_move rfl) ?_
    have hb := bnd hm; clear hm; obtain ⟨x2, hx2, hm⟩ := hb
    refine sd_ev rfl rfl rfl (ev_call en_92 rfl (cover_tree_receiver_w x1.1 p2 _ hx2 _)) ?_
    rintro _ w8 ⟨rfl, Gw8⟩
    have z15 := Gw8.size
    refine sd_vv rfl rfl rfl (vv_not rfl) ?_
    refine sd_done ?_
    refine sw_cond rfl (fun c2 => ?_) (fun c2 => ?_)
    ·
      replace hm := cnd_t c2 hm
      refine sw_seq ?_
      -- region 5 cover.go:183
      refine sw_region [(0, 0), (1, 0), (2, 0)] rfl rfl rfl ?_
      refine sd_vv rfl rfl rfl (vv_build (cs := TSecret.cs (TSecret.mk 0 [] (TPoint.mk 0#64 0#64)) (.slice none 0 0)) bs_74 rfl rfl) ?_
      have B16 := (Bx.gr (Bx.md (Bx.gr (Bx.gr Bw3 Gw4) Gw5) Mw6) Gw8)
      refine sd_ev rfl rfl rfl (ev_stM (cs' := TSecret.cs (TSecret.mk 0 [] (TPoint.mk 0#64 0#64)) (.slice none 0 0)) (vs := TSecret.cs (TSecret.mk 0 [] (TPoint.mk 0#64 0#64)) (.slice none 0 0)) (agg_74).siz rfl rfl rfl rfl (TSecret.cs_ones _ _ rfl) B16 rfl rfl) ?_
      rintro _ w9 ⟨Bw9, Mw9⟩
      have z17 := Mw9.size
      refine sd_vv rfl rfl rfl (vv_assign rfl) ?_
      refine sd_done ?_
      refine sw_ret ?_
      refine then_r ?_
      have X18 : Gr w w9 := (Gr.md (Gr.trans (Gr.md (Gr.trans (Gr.trans (Gr.trans (Gr.trans (Gr.trans (Gr.refl w) Gw1) Gw2) Gw3) Gw4) Gw5) Mw6) Gw8) Mw9)
      have hr := Option.some.inj hm
      subst hr
      refine ⟨_, _, rfl, res_2 rfl (rv_cellW agg_74 rfl Bw9 rfl) (rv_tmp rfl), ?_⟩
      exact ⟨(.slice none 0 0), 0, 0, rfl, (own_nil _ 0 81 18), ⟨.inl rfl⟩, X18⟩
    ·
      replace hm := cnd_f c2 hm
      refine sw_skip ?_
      refine then_n ?_
      refine sw_seq ?_
      -- region 6 cover.go:185
      refine sw_region [(0, 0), (1, 0), (2, 0), (3, 0)] rfl rfl rfl ?_
      refine sd_vv rfl rfl rfl (vv_move rfl) ?_
      refine sd_vv rfl rfl rfl (vv_build (cs := TSecret.cs (TSecret.mk p2 [] (TPoint.mk 0#64 0#64)) (.slice none 0 0)) bs_74 rfl rfl) ?_
      refine sd_ev rfl rfl rfl (ev_alloc (cs := TSecret.cs (TSecret.mk 0 [] (TPoint.mk 0#64 0#64)) (.slice none 0 0)) zv_74 rfl) ?_
      rintro _ w10 ⟨b10, rfl, hbw10, Bw10, Gw10⟩
      have z19 := Gw10.size
      have lt20 := Bw10.lt
      refine sd_ev rfl rfl rfl (ev_stM (cs' := TSecret.cs (TSecret.mk p2 [] (TPoint.mk 0#64 0#64)) (.slice none 0 0)) (vs := TSecret.cs (TSecret.mk p2 [] (TPoint.mk 0#64 0#64)) (.slice none 0 0)) (agg_74).siz rfl rfl rfl rfl (TSecret.cs_ones _ _ rfl) Bw10 rfl rfl) ?_
      rintro _ w11 ⟨Bw11, Mw11⟩
      have z21 := Mw11.size
      refine sd_done ?_
      refine sw_seq ?_
      refine sw_seq ?_
      -- region 7 cover.go:186
      refine sw_region [(0, 0), (1, 0), (2, 0)] rfl rfl rfl ?_
      have B22 := (Bx.md (Bx.gr (Bx.gr Bw6 Gw8) Gw10) Mw11)
      refine sd_vv rfl rfl rfl (vv_loadW agg_134 rfl B22 rfl) ?_
      refine sd_vv rfl rfl rfl (vv_move rfl) ?_
      have hb := bnd hm; clear hm; obtain ⟨x3, hx3, hm⟩ := hb
      refine sd_ev rfl rfl rfl (ev_call en_82 rfl (cover_tree_labels_w x1.1 p2 _ hx3 _)) ?_
      rintro _ w12 ⟨k12_c0_0, k12_c0_1, rfl, O12_c0_0, f12_c0_0, O12_c0_1, f12_c0_1, Gw12⟩
      have z23 := Gw12.size
      have lt24 := O12_c0_0.lt
      have lt25 := O12_c0_1.lt
      refine sd_done ?_
      refine sw_block ?_
      have hb := bnd hm; clear hm; obtain ⟨l4, hl4, hm⟩ := hb
      have X26 : Gr w w12 := (Gr.trans (Gr.md (Gr.trans (Gr.trans (Gr.md (Gr.trans (Gr.trans (Gr.trans (Gr.trans (Gr.trans (Gr.refl w) Gw1) Gw2) Gw3) Gw4) Gw5) Mw6) Gw8) Gw10) Mw11) Gw12)
      have B27 := (Bx.gr (Bx.md (Bx.gr (Bx.gr (Bx.md (Bx.gr (Bx.gr (Bx.gr (Bx.gr Bw1 Gw2) Gw3) Gw4) Gw5) Mw6) Gw8) Gw10) Mw11) Gw12)
      have B28 := (Bx.gr (Bx.md (Bx.gr (Bx.gr (Bx.md (Bx.gr (Bx.gr B7 Gw4) Gw5) Mw6) Gw8) Gw10) Mw11) Gw12)
      have B29 := (Bx.gr (Bx.md (Bx.gr (Bx.gr (Bx.md (Bx.gr (Bx.gr Bw3 Gw4) Gw5) Mw6) Gw8) Gw10) Mw11) Gw12)
      have B30 := (Bx.gr B22 Gw12)
      have B31 := (Bx.gr Bw11 Gw12)
      refine sw_rangeFunc (gf := 129) rfl en_129 (cover_tree_labels_1_it x3.1 x3.2 _ _ _ hl4 _ O12_c0_0 O12_c0_1) (by intro x hx; obtain ⟨a, _, rfl⟩ := List.mem_map.1 hx; rfl) rfl _ (fun _ _ _ _ => False) ([b10] ++ zf 0 0) (stb_mk (α := List TLabel × Value × Nat × Nat) (fun ⟨a7, vy8, zy8, gy8⟩ rk => itL (cover_Secret_R1 p0 x1) (cover_Secret_D1 p2) (List.drop rk l4) a7 = some r) (fun ⟨a7, vy8, zy8, gy8⟩ => ([b10] ++ zf zy8 gy8)) (fun ⟨a7, vy8, zy8, gy8⟩ W => Own W zy8 gy8 81 18 vy8 (a7.map TLabel.cs) ∧ Hdn (zy8 = 0 ∨ w12.heap.size ≤ gy8) ∧ Bx W b10 74 (TSecret.cs (TSecret.mk p2 a7 (TPoint.mk 0#64 0#64)) vy8) ∧ True) (by rintro ⟨a7, vy8, zy8, gy8⟩ W ⟨F0, F1, F2, _⟩ b hb; have q0 := F0.lt; have q2 := F2.lt; replace hb : b ∈ ([b10] ++ zf zy8 gy8) := hb; simp only [List.mem_cons, List.mem_append, mem_zf, List.not_mem_nil, or_false, false_or, not_or, ne_eq, List.nil_append, List.cons_append, true_and, and_true, false_and, and_false, not_true_eq_false, not_false_eq_true, or_true, true_or] at hb; omega) (by rintro ⟨a7, vy8, zy8, gy8⟩ W W' ⟨F0, F1, F2, _⟩ E hs; replace hs : ∀ b ∈ ([b10] ++ zf zy8 gy8), W'.heap[b]? = W.heap[b]? := hs; exact ⟨Own.hs F0 hs (fun hz => by simp [mem_zf, hz]), F1, (hs _ (by simp)).trans F2, trivial⟩)) (fun _ => stb_false) (by intro b hb; simp only [List.mem_cons, List.mem_append, mem_zf, List.not_mem_nil, or_false, false_or, not_or, ne_eq, List.nil_append, List.cons_append, true_and, and_true, false_and, and_false, not_true_eq_false, not_false_eq_true, or_true, true_or] at hb ⊢; omega) ⟨⟨[], (.slice none 0 0), 0, 0⟩, hm, rfl, (own_nil _ 0 81 18), ⟨(.inl rfl)⟩, B31, trivial⟩ ?_ ?_ ?_
      · rintro l rk x fp w13 hl hx _ Kw13 hF hln hlt
        clear hm
        obtain ⟨⟨e9, e10⟩, hxe, rfl⟩ := map_some hx
        have Zw13 : Kz [(1, b10), (0, 0)] w12 w13 := kz_of_kp Kw13 (by intro k hk; simp only [Nin, and_true, List.mem_cons, List.mem_append, mem_zf, List.not_mem_nil, or_false, false_or, not_or, ne_eq, List.nil_append, List.cons_append, true_and, and_true, false_and, and_false, not_true_eq_false, not_false_eq_true, or_true, true_or] at hk ⊢; omega)
        have z32 := Kw13.size
        refine sw_seq ?_
        -- region 8 cover.go:186
        refine sw_region [(0, 0)] rfl rfl rfl ?_
        refine sd_vv rfl rfl rfl (vv_assign rfl) ?_
        refine sd_done ?_
        -- region 9 cover.go:186
        refine sw_region [(0, 0)] rfl rfl rfl ?_
        refine sd_vv rfl rfl rfl (vv_assign rfl) ?_
        refine sd_nil ?_
        refine ⟨rfl, (Gr.refl _), ?_⟩
        rintro w14 Mw14 ⟨⟨a7, vy8, zy8, gy8⟩, hm, rfl, Fw14_0, Fw14_1, Fw14_2, -⟩
        have z33 := Mw14.size
        have lt34 := Fw14_0.lth
        have lt35 := Fw14_2.lt
        replace hm := itL_at hm hxe
        generalize hnx1 : itL (cover_Secret_R1 p0 x1) (cover_Secret_D1 p2) (List.drop (rk + 1) l4) = nx1 at hm
        unfold cover_Secret_R1 at hm
        try dsimp only at hm
        refine sw_block ?_
        refine sw_seq ?_
        -- region 10 cover.go:187
        refine sw_region [(0, 0), (1, 0), (2, 0), (3, 0), (4, 0)] rfl rfl rfl ?_
        refine sd_vv rfl rfl rfl (vv_move rfl) ?_
        refine sd_vv rfl rfl rfl (vv_move rfl) ?_
        refine sd_vv rfl rfl rfl (vv_build (cs := TLabel.cs (TLabel.mk e9 e10 k0)) bs_81 rfl (by kernel_rfl)) ?_
        refine sd_ev rfl rfl rfl (ev_alloc (cs := TLabel.cs (TLabel.mk 0 0 k0)) zv_81 rfl) ?_
        rintro _ w15 ⟨b15, rfl, hbw15, Bw15, Gw15⟩
        have z36 := Gw15.size
        have lt37 := Bw15.lt
        refine sd_ev rfl rfl rfl (ev_stM (cs' := TLabel.cs (TLabel.mk e9 e10 k0)) (vs := TLabel.cs (TLabel.mk e9 e10 k0)) (agg_81).siz rfl rfl rfl rfl rfl Bw15 rfl rfl) ?_
        rintro _ w16 ⟨Bw16, Mw16⟩
        have z38 := Mw16.size
        refine sd_done ?_
        have X39 : Gr w w16 := (Gr.md (Gr.trans (Gr.md (Gr.kz X26 Zw13) Mw14) Gw15) Mw16)
        refine sw_joinD (β := W2) [38, 39, 40, 41, 42, 43, 44, 45, 46, 47, 48, 49, 50, 51, 52, 53] (fun a11 => []) (fun a11 wr => (cover_Secret_J2 a7 nx1 e9 e10 a11 = some r) ∧ Bx wr b15 81 (TLabel.cs (TLabel.mk e9 e10 a11)) ∧ Kz [(1, b15)] w16 wr) ?_ ?_
        · clear hm; rintro a11 w17 ⟨hm, Fw17_0, Kw17⟩
          have z40 := Kw17.size
          have lt41 := Fw17_0.lt
          unfold cover_Secret_J2 at hm
          -- region 14 cover.go:193
          refine sw_region [(0, 0), (1, 0), (2, 0), (3, 0), (4, 0), (5, 0), (6, 0)] rfl rfl rfl ?_
          refine sd_vv rfl rfl rfl (vv_fieldAddr fa_74_1 rfl) ?_
          have B42 := (Bx.kz (Bx.md (Bx.gr Fw14_2 Gw15) Mw16) Kw17)
          refine sd_vv rfl rfl rfl (vv_load1 (v := vy8) one_70 rfl B42 rfl) ?_
          refine sd_vv rfl rfl rfl (vv_loadW agg_81 rfl Fw17_0 rfl) ?_
          refine sd_ev rfl rfl rfl (ev_litT [(TLabel.mk e9 e10 a11)] TLabel.cs bsl_70_1 rfl rfl (ws_of rfl) rfl rfl rfl) ?_
          rintro vw18 w18 ⟨gw18, hbw18, Ow18, Gw18⟩
          have z43 := Gw18.size
          have lt44 := Ow18.lth
          have B45 := (Own.gr (Own.kz (Own.md (Own.gr Fw14_0 Gw15) Mw16 (tk1 ((pv_lt (A := (fun x => x ≠ b15)) lt34) : zy8 = 0 ∨ gy8 ≠ b15))) Kw17 (tk1 ((pv_lt (A := (fun x => x ≠ b15)) lt34) : zy8 = 0 ∨ gy8 ≠ b15))) Gw18)
          have hb := bnd hm; clear hm; obtain ⟨l12, hl12, hm⟩ := hb
          refine sd_ev rfl rfl rfl (ev_appT (l := a7) (m := [(TLabel.mk e9 e10 a11)]) (c := TLabel.cs) apt_70 rfl rfl B45 (Own.rd Ow18) hl12 (by decide)) ?_
          rintro vw19 w19 ⟨zw19, gw19, Ow19, Aw19, qw19, rw19⟩
          have z46 := Aw19.size
          refine sd_vv rfl rfl rfl (vv_fieldAddr fa_74_1 rfl) ?_
          have B47 := (Bx.ka (Bx.gr B42 Gw18) Aw19 (tk1 ((pv_0 (A := (fun x => x ≠ b10)) Fw14_1) : zy8 = 0 ∨ gy8 ≠ b10)))
          refine sd_ev rfl rfl rfl (ev_st1 (cs' := TSecret.cs (TSecret.mk p2 l12 (TPoint.mk 0#64 0#64)) vw19) (one_70).siz rfl rfl (Own.oneB Ow19) B47 rfl rfl) ?_
          rintro _ w20 ⟨Bw20, Mw20⟩
          have z48 := Mw20.size
          refine sd_nil ?_
          refine block_n ?_
          have B50 := (Own.md Ow19 Mw20 (tk1 ((pv_app (A := (fun x => x ≠ b10)) rw19 (pv_0 (A := (fun x => x ≠ b10)) Fw14_1)) : zw19 = 0 ∨ gw19 ≠ b10)))
          have K_49 : Kz [(1, b10), (zy8, gy8)] w14 w20 := (Kz.md (Kz.ka (Kz.gr (Kz.kz (Kz.md (Kz.gr (Kz.refl _ _) Gw15) Mw16) Kw17) Gw18) Aw19 (tk1 (tk0 : zy8 = 0 ∨ (gy8 = gy8 ∧ zy8 ≠ 0) ∨ w14.heap.size ≤ gy8))) Mw20)
          have Kq49 : Kp ([b10] ++ zf zy8 gy8) w14 w20 := kp_of_kz K_49 (by intro k hk; simp only [Nin, and_true, List.mem_cons, List.mem_append, mem_zf, List.not_mem_nil, or_false, false_or, not_or, ne_eq, List.nil_append, List.cons_append, true_and, and_true, false_and, and_false, not_true_eq_false, not_false_eq_true, or_true, true_or] at hk ⊢; omega)
          subst hnx1
          exact ⟨Kq49, ([b10] ++ zf zw19 gw19), (by intro c hc; have := ((pv_app (A := (fun x => (x = gy8 ∧ zy8 ≠ 0) ∨ w14.heap.size ≤ x)) rw19 tk0) : zw19 = 0 ∨ (gw19 = gy8 ∧ zy8 ≠ 0) ∨ w14.heap.size ≤ gw19); simp only [List.mem_cons, List.mem_append, mem_zf, List.not_mem_nil, or_false, false_or, not_or, ne_eq, List.nil_append, List.cons_append, true_and, and_true, false_and, and_false, not_true_eq_false, not_false_eq_true, or_true, true_or] at hc ⊢; omega), ⟨⟨l12, vw19, zw19, gw19⟩, hm, rfl, B50, ⟨(pv_app (A := (fun x => w12.heap.size ≤ x)) rw19 (pv_0 (A := (fun x => w12.heap.size ≤ x)) Fw14_1))⟩, Bw20, trivial⟩⟩
        ·
          refine sw_seq ?_
          -- region 11 cover.go:188
          refine sw_region [(0, 0), (1, 0)] rfl rfl rfl ?_
          refine sd_vv rfl rfl rfl (vv_move rfl) ?_
          refine sd_vv rfl rfl rfl (vv_eql (a := e10) (b := 0) rfl rfl) ?_
          refine sd_done ?_
          refine sw_cond rfl (fun c3 => ?_) (fun c3 => ?_)
          ·
            replace hm := ite_t (of_decide_eq_true c3) hm
            -- region 12 cover.go:189
            refine sw_region [(0, 0), (1, 0), (2, 0), (3, 0), (4, 0), (5, 0), (6, 0), (7, 0)] rfl rfl rfl ?_
            have B51 := (Bx.md (Bx.gr (Bx.md (Bx.kz B30 Zw13) Mw14) Gw15) Mw16)
            refine sd_vv rfl rfl rfl (vv_loadW agg_134 rfl B51 rfl) ?_
            have B52 := (Bx.md (Bx.gr (Bx.md (Bx.kz B27 Zw13) Mw14) Gw15) Mw16)
            refine sd_vv rfl rfl rfl (vv_loadW agg_26 rfl B52 rfl) ?_
            refine sd_vv rfl rfl rfl (vv_fieldAddr fa_81_0 rfl) ?_
            refine sd_vv rfl rfl rfl (vv_load1 (v := .int .i64 e9) one_3 rfl Bw16 rfl) ?_
            refine sd_vv rfl rfl rfl (vv_build (cs := TSubset.cs (TSubset.mk e9 0)) bs_47 rfl rfl) ?_
            have hb := bnd hm; clear hm; obtain ⟨x13, hx13, hm⟩ := hb
            refine sd_ev rfl rfl rfl (ev_call en_88 rfl (cover_tree_key_w x1.1 p0 (TSubset.mk e9 0) _ hx13 _)) ?_
            rintro _ w21 ⟨rfl, Gw21⟩
            have z53 := Gw21.size
            refine sd_vv rfl rfl rfl (vv_fieldAddr fa_81_2 rfl) ?_
            have B54 := (Bx.gr Bw16 Gw21)
            refine sd_ev rfl rfl rfl (ev_stM (cs' := TLabel.cs (TLabel.mk e9 e10 x13)) (vs := kb x13) (agg_26).siz rfl rfl rfl rfl rfl B54 rfl rfl) ?_
            rintro _ w22 ⟨Bw22, Mw22⟩
            have z55 := Mw22.size
            refine sd_nil ?_
            have K_56 : Kz [(1, b15)] w16 w22 := (Kz.md (Kz.gr (Kz.refl _ _) Gw21) Mw22)
            refine ⟨rfl, x13, ?_, hm, Bw22, K_56⟩
            repeat' first | exact trivial | refine ⟨rfl, ?_⟩
          ·
            replace hm := ite_f (of_decide_eq_false c3) hm
            -- region 13 cover.go:191
            refine sw_region [(0, 0), (1, 0), (2, 0), (3, 0), (4, 0), (5, 0), (6, 0), (7, 0)] rfl rfl rfl ?_
            have B57 := (Bx.md (Bx.gr (Bx.md (Bx.kz B27 Zw13) Mw14) Gw15) Mw16)
            refine sd_vv rfl rfl rfl (vv_loadW agg_26 rfl B57 rfl) ?_
            refine sd_vv rfl rfl rfl (vv_move rfl) ?_
            have hb := bnd hm; clear hm; obtain ⟨x14, hx14, hm⟩ := hb
            refine sd_ev rfl rfl rfl (ev_call en_94 rfl (cover_nodeKey_w p0 e9 _ hx14 _)) ?_
            rintro _ w23 ⟨rfl, Gw23⟩
            have z58 := Gw23.size
            refine sd_vv rfl rfl rfl (vv_move rfl) ?_
            refine sd_vv rfl rfl rfl (vv_move rfl) ?_
            have hb := bnd hm; clear hm; obtain ⟨x15, hx15, hm⟩ := hb
            refine sd_ev rfl rfl rfl (ev_call en_93 rfl (cover_descend_w x14 e9 e10 _ hx15 _)) ?_
            rintro _ w24 ⟨rfl, Gw24⟩
            have z59 := Gw24.size
            refine sd_vv rfl rfl rfl (vv_fieldAddr fa_81_2 rfl) ?_
            have B60 := (Bx.gr (Bx.gr Bw16 Gw23) Gw24)
            refine sd_ev rfl rfl rfl (ev_stM (cs' := TLabel.cs (TLabel.mk e9 e10 x15)) (vs := kb x15) (agg_26).siz rfl rfl rfl rfl rfl B60 rfl rfl) ?_
            rintro _ w25 ⟨Bw25, Mw25⟩
            have z61 := Mw25.size
            refine sd_nil ?_
            have K_62 : Kz [(1, b15)] w16 w25 := (Kz.md (Kz.gr (Kz.gr (Kz.refl _ _) Gw23) Gw24) Mw25)
            refine ⟨rfl, x15, ?_, hm, Bw25, K_62⟩
            repeat' first | exact trivial | refine ⟨rfl, ?_⟩
      · clear hm; rintro Dw26 fp w26 hDw26 Dfw26 nw26 ⟨⟨a7, vy8, zy8, gy8⟩, hm, rfl, Fw26_0, Fw26_1, Fw26_2, -⟩ Kw26
        replace hm := itL_end hm
        have Zw26 : Kz [(1, b10), (0, 0)] w12 w26 := kz_of_kp Kw26 (by intro k hk; simp only [Nin, and_true, List.mem_cons, List.mem_append, mem_zf, List.not_mem_nil, or_false, false_or, not_or, ne_eq, List.nil_append, List.cons_append, true_and, and_true, false_and, and_false, not_true_eq_false, not_false_eq_true, or_true, true_or] at hk ⊢; omega)
        have z63 := Kw26.size
        have lt64 := Df.lt (w := w26) Dfw26
        simp only [List.mem_cons, List.mem_append, mem_zf, List.not_mem_nil, or_false, false_or, not_or, ne_eq, List.nil_append, List.cons_append, true_and, and_true, false_and, and_false, not_true_eq_false, not_false_eq_true, or_true, true_or, not_and] at nw26
        have lt65 := Fw26_0.lth
        have lt66 := Fw26_2.lt
        unfold cover_Secret_D1 at hm
        try dsimp only at hm
        refine block_n ?_
        refine then_n ?_
        refine sw_seq ?_
        -- region 15 cover.go:195
        refine sw_region [(0, 0), (1, 0), (2, 0)] rfl rfl rfl ?_
        refine sd_vv rfl rfl rfl (vv_loadW agg_74 rfl Fw26_2 rfl) ?_
        have B67 := (Bx.kz B29 Zw26)
        refine sd_ev rfl rfl rfl (ev_stM (cs' := TSecret.cs (TSecret.mk p2 a7 (TPoint.mk 0#64 0#64)) vy8) (vs := TSecret.cs (TSecret.mk p2 a7 (TPoint.mk 0#64 0#64)) vy8) (agg_74).siz rfl rfl rfl rfl (TSecret.cs_ones _ _ (Own.oneB Fw26_0)) B67 rfl rfl) ?_
        rintro _ w27 ⟨Bw27, Mw27⟩
        have z68 := Mw27.size
        refine sd_vv rfl rfl rfl (vv_assign rfl) ?_
        refine sd_done ?_
        refine sw_ret ?_
        have DL69 := (Df.md Dfw26 Mw27)
        have L69 := Md.put (w := w27) Dw26 (.deferred none)
        have zL69 := L69.size
        have B70 := (Bx.md Bw27 L69)
        have B71 := (Own.md (Own.md Fw26_0 Mw27 (tk1 ((pv_0 (A := (fun x => x ≠ b3)) Fw26_1) : zy8 = 0 ∨ gy8 ≠ b3))) L69)
        have X72 : Gr w (w27.putObj Dw26 (.deferred none)) := (Gr.md (Gr.md (Gr.kz X26 Zw26) Mw27) L69)
        have hr := Option.some.inj hm
        subst hr
        refine ⟨_, _, ⟨Dw26, rfl, DL69, rfl⟩, res_2 rfl (rv_cellW agg_74 rfl B70 rfl) (rv_tmp rfl), ?_⟩
        exact ⟨vy8, zy8, gy8, rfl, B71, ⟨(pv_0 (A := (fun x => w.heap.size ≤ x)) Fw26_1)⟩, X72⟩
      · rintro _ _ _ _ _ _ _ _ _ h _
        exact h.elim

set_option maxHeartbeats 2000000 in
theorem cover_tree_list_w (p0 : Tcover_tree) (p1 : List Int) (vp1 : Value) (zp1 gp1 op1 : Nat) (r : Bool) (hm : cover_tree_list p0 p1 = some r) (w : World) (hp1 : Rd w zp1 gp1 op1 1 vp1 (p1.map ic))  :
    Calls Try.prog 109 [.agg (Tcover_tree.cs p0).toArray, vp1].toArray w fun e w' => ∃ v, e = .returned v ∧ (v = .bool r ∧ Gr w w') := by
  have lt1 := hp1.lth
  unfold cover_tree_list at hm
  refine calls_of_sw (R := fun v w' => v = .bool r ∧ Gr w w') 32 Try.func109 rfl rfl rfl ?_
  refine sw_seq ?_
  -- region 0 tree.go:74
  refine sw_region [(0, 0), (1, 0)] rfl rfl rfl ?_
  refine sd_ev rfl rfl rfl (ev_box (cs := Tcover_tree.cs p0) rfl rfl) ?_
  rintro _ w1 ⟨b1, rfl, hbw1, Bw1, Gw1⟩
  have z2 := Gw1.size
  have lt3 := Bw1.lt
  refine sd_vv rfl rfl rfl (vv_assign rfl) ?_
  refine sd_done ?_
  refine sw_seq ?_
  refine sw_seq ?_
  -- region 1 tree.go:75
  refine sw_region [(0, 0), (1, 0), (2, 0)] rfl rfl rfl ?_
  refine sd_vv rfl rfl rfl (vv_move rfl) ?_
  have B4 := (Rd.gr hp1 Gw1)
  refine sd_vv rfl rfl rfl (vv_lenT (l := p1) (c := ic) Try.underlying61 rfl B4) ?_
  refine sd_vv rfl rfl rfl (vv_move rfl) ?_
  refine sd_done ?_
  refine sw_block ?_
  have X5 : Gr w w1 := (Gr.trans (Gr.refl w) Gw1)
  refine sw_loopD (α := Nat × Int) [4, 5, 6, 9, 10, 11, 12, 13, 14, 15, 16, 17, 18, 19, 20, 21, 22, 23, 24, 25, 26, 27, 28, 29, 30, 31] (fun ⟨n1, a2⟩ => [(4, .bool false), (9, .int .i64 a2)]) (fun ⟨n1, a2⟩ wr => (fixN (cover_tree_list_L1 p0 p1) n1 a2 = some r) ∧ Kz [] w1 wr) (fun ⟨n1, a2⟩ => n1) ⟨FUEL, 0⟩ ?_ ?_ ?_
  · repeat' first | exact trivial | refine ⟨rfl, ?_⟩
  · exact ⟨hm, Kz.refl _ _⟩
  · clear hm; rintro ⟨n1, a2⟩ w2 ⟨hm, Kw2⟩
    have z6 := Kw2.size
    have hb := fix_succ hm; clear hm; obtain ⟨n1, rfl, hm⟩ := hb
    generalize hrec1 : fixN (cover_tree_list_L1 p0 p1) n1 = rec1 at hm
    unfold cover_tree_list_L1 at hm
    try dsimp only at hm
    refine sw_seq ?_
    -- region 2 tree.go:75
    refine sw_region [(0, 0)] rfl rfl rfl ?_
    refine sd_vv rfl rfl rfl (vv_lss (a := a2) (b := (p1.length : Int)) rfl rfl) ?_
    refine sd_done ?_
    refine sw_seq ?_
    refine sw_cond rfl (fun c1 => ?_) (fun c1 => ?_)
    ·
      replace hm := ite_t (of_decide_eq_true c1) hm
      refine sw_skip ?_
      refine then_n ?_
      refine sw_seq ?_
      refine sw_block ?_
      refine sw_seq ?_
      -- region 3 tree.go:75
      refine sw_region [(0, 0), (1, 0), (2, 0), (3, 0), (4, 0)] rfl rfl rfl ?_
      refine sd_vv rfl rfl rfl (vv_move rfl) ?_
      have hb := bnd hm; clear hm; obtain ⟨y3, hy3, hm⟩ := hb
      have B7 := (Rd.kz B4 Kw2)
      refine sd_vv rfl rfl rfl (vv_ixT (i := a2) Try.underlying61 (one_3).siz rfl B7 rfl hy3) ?_
      refine sd_vv rfl rfl rfl (vv_el1T (q := 0) (u := .int .i64 y3) one_3 rfl B7 hy3 (by first | rfl | omega) rfl) ?_
      refine sd_vv rfl rfl rfl (vv_assign rfl) ?_
      refine sd_vv rfl rfl rfl (vv_assign rfl) ?_
      refine sd_done ?_
      have X8 : Gr w w2 := (Gr.kz X5 Kw2)
      refine sw_joinD (β := Bool) [14, 15, 16, 17, 18, 19, 20, 21, 22, 23, 24, 25, 26, 27, 28, 29, 30] (fun a4 => [(30, .bool a4)]) (fun a4 wr => (cover_tree_list_J2 a2 rec1 a4 = some r) ∧ Kz [] w2 wr) ?_ ?_
      · clear hm; rintro a4 w3 ⟨hm, Kw3⟩
        have z9 := Kw3.size
        unfold cover_tree_list_J2 at hm
        refine sw_cond rfl (fun c2 => ?_) (fun c2 => ?_)
        ·
          replace hm := cnd_t c2 hm
          refine sw_seq ?_
          -- region 5 tree.go:77
          refine sw_region [(0, 0)] rfl rfl rfl ?_
          refine sd_vv rfl rfl rfl (vv_assign rfl) ?_
          refine sd_done ?_
          refine sw_ret ?_
          refine block_r ?_
          refine then_r ?_
          refine then_r ?_
          refine block_r ?_
          refine then_r ?_
          have X10 : Gr w w3 := (Gr.kz X8 Kw3)
          have hr := Option.some.inj hm
          subst hr
          refine ⟨_, _, rfl, res_1 rfl (rv_tmp rfl), ?_⟩
          exact ⟨rfl, X10⟩
        ·
          replace hm := cnd_f c2 hm
          refine sw_skip ?_
          refine block_n ?_
          refine then_n ?_
          -- region 6 tree.go:75
          refine sw_region [(0, 0), (1, 0)] rfl rfl rfl ?_
          refine sd_vv rfl rfl rfl (vv_add (k := .i64) (a := a2) (b := 1) rfl rfl) ?_
          refine sd_vv rfl rfl rfl (vv_move rfl) ?_
          refine sd_nil ?_
          have K_11 : Kz [] w1 w3 := (Kz.kz Kw2 Kw3)
          subst hrec1
          refine ⟨rfl, ⟨n1, w64 (a2 + 1)⟩, ?_, ⟨hm, K_11⟩, Nat.lt_succ_self _⟩
          repeat' first | exact trivial | refine ⟨rfl, ?_⟩
      ·
        -- region 4 tree.go:76
        refine sw_region [(0, 0), (1, 0), (2, 0), (3, 0), (4, 0), (5, 0), (6, 0), (7, 0), (8, 0), (9, 0), (10, 0), (11, 0), (12, 0), (13, 0), (14, 0), (15, 0), (16, 0)] rfl rfl rfl ?_
        have B12 := (Bx.kz Bw1 Kw2)
        refine sd_vv rfl rfl rfl (vv_loadW agg_134 rfl B12 rfl) ?_
        refine sd_vv rfl rfl rfl (vv_move rfl) ?_
        have hb := bnd hm; clear hm; obtain ⟨x5, hx5, hm⟩ := hb
        refine sd_ev rfl rfl rfl (ev_call en_92 rfl (cover_tree_receiver_w p0 y3 _ hx5 _)) ?_
        rintro _ w4 ⟨rfl, Gw4⟩
        have z13 := Gw4.size
        refine sd_vv rfl rfl rfl (vv_not rfl) ?_
        refine sd_split rfl rfl rfl (vv_move rfl) (fun c3 => ?_) (fun c3 => ?_)
        ·
          replace hm := cnd_t c3 hm
          refine sd_skip rfl rfl rfl ?_
          refine sd_skip rfl rfl rfl ?_
          refine sd_skip rfl rfl rfl ?_
          refine sd_skip rfl rfl rfl ?_
          refine sd_skip rfl rfl rfl ?_
          refine sd_skip rfl rfl rfl ?_
          refine sd_skip rfl rfl rfl ?_
          refine sd_skip rfl rfl rfl ?_
          refine sd_skip rfl rfl rfl ?_
          refine sd_skip rfl rfl rfl ?_
          refine sd_skip rfl rfl rfl ?_
          refine sd_vv rfl rfl rfl (vv_pickT rfl rfl) ?_
          refine sd_nil ?_
          have K_14 : Kz [] w2 w4 := (Kz.gr (Kz.refl _ _) Gw4)
          refine ⟨rfl, true, ?_, hm, K_14⟩
          repeat' first | exact trivial | refine ⟨rfl, ?_⟩
        ·
          replace hm := cnd_f c3 hm
          refine sd_vv rfl rfl rfl (vv_move rfl) ?_
          refine sd_vv rfl rfl rfl (vv_gtr (a := a2) (b := 0) rfl rfl) ?_
          refine sd_split rfl rfl rfl (vv_move rfl) (fun c4 => ?_) (fun c4 => ?_)
          ·
            replace hm := ite_t (of_decide_eq_true c4) hm
            refine sd_vv rfl rfl rfl (vv_move rfl) ?_
            refine sd_vv rfl rfl rfl (vv_move rfl) ?_
            refine sd_vv rfl rfl rfl (vv_move rfl) ?_
            refine sd_vv rfl rfl rfl (vv_sub (k := .i64) (a := a2) (b := 1) rfl rfl) ?_
            have hb := bnd hm; clear hm; obtain ⟨y6, hy6, hm⟩ := hb
            have B15 := (Rd.gr B7 Gw4)
            refine sd_vv rfl rfl rfl (vv_ixT (i := w64 (a2 - 1)) Try.underlying61 (one_3).siz rfl B15 rfl hy6) ?_
            refine sd_vv rfl rfl rfl (vv_el1T (q := 0) (u := .int .i64 y6) one_3 rfl B15 hy6 (by first | rfl | omega) rfl) ?_
            refine sd_vv rfl rfl rfl (vv_leq (a := y3) (b := y6) rfl rfl) ?_
            refine sd_vv rfl rfl rfl (vv_pickT rfl rfl) ?_
            refine sd_vv rfl rfl rfl (vv_pickF rfl rfl) ?_
            refine sd_nil ?_
            have K_16 : Kz [] w2 w4 := (Kz.gr (Kz.refl _ _) Gw4)
            refine ⟨rfl, (decide (y3 ≤ y6)), ?_, hm, K_16⟩
            repeat' first | exact trivial | refine ⟨rfl, ?_⟩
          ·
            replace hm := ite_f (of_decide_eq_false c4) hm
            refine sd_skip rfl rfl rfl ?_
            refine sd_skip rfl rfl rfl ?_
            refine sd_skip rfl rfl rfl ?_
            refine sd_skip rfl rfl rfl ?_
            refine sd_skip rfl rfl rfl ?_
            refine sd_skip rfl rfl rfl ?_
            refine sd_skip rfl rfl rfl ?_
            refine sd_vv rfl rfl rfl (vv_pickF rfl rfl) ?_
            refine sd_vv rfl rfl rfl (vv_pickF rfl rfl) ?_
            refine sd_nil ?_
            have K_17 : Kz [] w2 w4 := (Kz.gr (Kz.refl _ _) Gw4)
            refine ⟨rfl, false, ?_, hm, K_17⟩
            repeat' first | exact trivial | refine ⟨rfl, ?_⟩
    ·
      replace hm := ite_f (of_decide_eq_false c1) hm
      refine sw_exit ?_
      refine then_x ?_
      refine then_x ?_
      refine block_x ?_
      refine then_n ?_
      refine sw_seq ?_
      -- region 7 tree.go:80
      refine sw_region [(0, 0)] rfl rfl rfl ?_
      refine sd_vv rfl rfl rfl (vv_assign rfl) ?_
      refine sd_done ?_
      refine sw_ret ?_
      have X18 : Gr w w2 := (Gr.kz X5 Kw2)
      have hr := Option.some.inj hm
      subst hr
      refine ⟨_, _, rfl, res_1 rfl (rv_tmp rfl), ?_⟩
      exact ⟨rfl, X18⟩

set_option maxHeartbeats 2000000 in
theorem cover_Knows_1_w (p0 : Int) (p1 : Tcover_tree) (p2 : TSubset) (bp1 : Nat) (bp2 : Nat) (r : Bool) (hm : cover_Knows_1 p0 p1 p2 = some r) (w : World) (hbp1 : Bx w bp1 134 (Tcover_tree.cs p1)) (hbp2 : Bx w bp2 47 (TSubset.cs p2))  :
    Calls Try.prog 111 [.int .i64 p0, .pointer (some ⟨bp1, 0, none⟩), .pointer (some ⟨bp2, 0, none⟩)].toArray w fun e w' => ∃ v, e = .returned v ∧ (v = .bool r ∧ Gr w w') := by
  have lt1 := hbp1.lt
  have lt2 := hbp2.lt
  unfold cover_Knows_1 at hm
  refine calls_of_sw (R := fun v w' => v = .bool r ∧ Gr w w') 18 Try.func111 rfl rfl rfl ?_
  refine sw_seq ?_
  -- region 0 cover.go:270
  refine sw_region [(0, 0)] rfl rfl rfl ?_
  refine sd_ev rfl rfl rfl (ev_alloc (cs := [.bool false]) zv_4 rfl) ?_
  rintro _ w1 ⟨b1, rfl, hbw1, Bw1, Gw1⟩
  have z3 := Gw1.size
  have lt4 := Bw1.lt
  refine sd_done ?_
  refine sw_seq ?_
  refine sw_seq ?_
  -- region 1 cover.go:271
  refine sw_region [(0, 0), (1, 0), (2, 0)] rfl rfl rfl ?_
  have B5 := (Bx.gr hbp1 Gw1)
  refine sd_vv rfl rfl rfl (vv_loadW agg_134 rfl B5 rfl) ?_
  refine sd_vv rfl rfl rfl (vv_move rfl) ?_
  have hb := bnd hm; clear hm; obtain ⟨x1, hx1, hm⟩ := hb
  refine sd_ev rfl rfl rfl (ev_call en_82 rfl (cover_tree_labels_w p1 p0 _ hx1 _)) ?_
  rintro _ w2 ⟨k2_c0_0, k2_c0_1, rfl, O2_c0_0, f2_c0_0, O2_c0_1, f2_c0_1, Gw2⟩
  have z6 := Gw2.size
  have lt7 := O2_c0_0.lt
  have lt8 := O2_c0_1.lt
  refine sd_done ?_
  refine sw_block ?_
  have hb := bnd hm; clear hm; obtain ⟨l2, hl2, hm⟩ := hb
  have X9 : Gr w w2 := (Gr.trans (Gr.trans (Gr.refl w) Gw1) Gw2)
  have B10 := (Bx.gr B5 Gw2)
  have B11 := (Bx.gr (Bx.gr hbp2 Gw1) Gw2)
  have B12 := (Bx.gr Bw1 Gw2)
  refine sw_rangeFunc (gf := 129) rfl en_129 (cover_tree_labels_1_it x1.1 x1.2 _ _ _ hl2 _ O2_c0_0 O2_c0_1) (by intro x hx; obtain ⟨a, _, rfl⟩ := List.mem_map.1 hx; rfl) rfl _ _ ([b1]) (stb_mk (α := Bool) (fun a4 rk => itL (cover_Knows_1_R1 p1 p2) cover_Knows_1_D1 (List.drop rk l2) a4 = some r) (fun a4 => ([b1])) (fun a4 W => Bx W b1 4 ([.bool a4]) ∧ True) (by rintro a4 W ⟨F0, _⟩ b hb; have q0 := F0.lt; replace hb : b ∈ ([b1]) := hb; simp only [List.mem_cons, List.mem_append, mem_zf, List.not_mem_nil, or_false, false_or, not_or, ne_eq, List.nil_append, List.cons_append, true_and, and_true, false_and, and_false, not_true_eq_false, not_false_eq_true, or_true, true_or] at hb; omega) (by rintro a4 W W' ⟨F0, _⟩ E hs; replace hs : ∀ b ∈ ([b1]), W'.heap[b]? = W.heap[b]? := hs; exact ⟨(hs _ (by simp)).trans F0, trivial⟩)) (fun c => (stb_c (c = .ret) (stb_mk (α := Bool) (fun a4 rk => cover_Knows_1_X1_0 a4 = some r) (fun a4 => ([b1])) (fun a4 W => Bx W b1 4 ([.bool a4]) ∧ True) (by rintro a4 W ⟨F0, _⟩ b hb; have q0 := F0.lt; replace hb : b ∈ ([b1]) := hb; simp only [List.mem_cons, List.mem_append, mem_zf, List.not_mem_nil, or_false, false_or, not_or, ne_eq, List.nil_append, List.cons_append, true_and, and_true, false_and, and_false, not_true_eq_false, not_false_eq_true, or_true, true_or] at hb; omega) (by rintro a4 W W' ⟨F0, _⟩ E hs; replace hs : ∀ b ∈ ([b1]), W'.heap[b]? = W.heap[b]? := hs; exact ⟨(hs _ (by simp)).trans F0, trivial⟩)))) (by intro b hb; simp only [List.mem_cons, List.mem_append, mem_zf, List.not_mem_nil, or_false, false_or, not_or, ne_eq, List.nil_append, List.cons_append, true_and, and_true, false_and, and_false, not_true_eq_false, not_false_eq_true, or_true, true_or] at hb ⊢; omega) ⟨false, hm, rfl, B12, trivial⟩ ?_ ?_ ?_
  · rintro l rk x fp w3 hl hx _ Kw3 hF hln hlt
    clear hm
    obtain ⟨⟨e5, e6⟩, hxe, rfl⟩ := map_some hx
    have Zw3 : Kz [(1, b1)] w2 w3 := kz_of_kp Kw3 (by intro k hk; simp only [Nin, and_true, List.mem_cons, List.mem_append, mem_zf, List.not_mem_nil, or_false, false_or, not_or, ne_eq, List.nil_append, List.cons_append, true_and, and_true, false_and, and_false, not_true_eq_false, not_false_eq_true, or_true, true_or] at hk ⊢; omega)
    have z13 := Kw3.size
    refine sw_seq ?_
    -- region 2 cover.go:271
    refine sw_region [(0, 0)] rfl rfl rfl ?_
    refine sd_vv rfl rfl rfl (vv_assign rfl) ?_
    refine sd_done ?_
    -- region 3 cover.go:271
    refine sw_region [(0, 0)] rfl rfl rfl ?_
    refine sd_vv rfl rfl rfl (vv_assign rfl) ?_
    refine sd_nil ?_
    refine ⟨rfl, (Gr.refl _), ?_⟩
    rintro w4 Mw4 ⟨a4, hm, rfl, Fw4_0, -⟩
    have z14 := Mw4.size
    have lt15 := Fw4_0.lt
    replace hm := itL_at hm hxe
    generalize hnx1 : itL (cover_Knows_1_R1 p1 p2) cover_Knows_1_D1 (List.drop (rk + 1) l2) = nx1 at hm
    unfold cover_Knows_1_R1 at hm
    try dsimp only at hm
    refine sw_block ?_
    refine sw_seq ?_
    -- region 4 cover.go:272
    refine sw_region [(0, 0), (1, 0), (2, 0), (3, 0), (4, 0), (5, 0)] rfl rfl rfl ?_
    have B16 := (Bx.md (Bx.kz B10 Zw3) Mw4)
    refine sd_vv rfl rfl rfl (vv_loadW agg_134 rfl B16 rfl) ?_
    refine sd_vv rfl rfl rfl (vv_move rfl) ?_
    refine sd_vv rfl rfl rfl (vv_move rfl) ?_
    refine sd_vv rfl rfl rfl (vv_build (cs := TLabel.cs (TLabel.mk e5 e6 k0)) bs_81 rfl (by kernel_rfl)) ?_
    have B17 := (Bx.md (Bx.kz B11 Zw3) Mw4)
    refine sd_vv rfl rfl rfl (vv_loadW agg_47 rfl B17 rfl) ?_
    have hb := bnd hm; clear hm; obtain ⟨x7, hx7, hm⟩ := hb
    refine sd_ev rfl rfl rfl (ev_call en_104 rfl (cover_tree_leads_w p1 (TLabel.mk e5 e6 k0) p2 _ hx7 _)) ?_
    rintro _ w5 ⟨rfl, Gw5⟩
    have z18 := Gw5.size
    refine sd_done ?_
    refine sw_cond rfl (fun c1 => ?_) (fun c1 => ?_)
    ·
      replace hm := cnd_t c1 hm
      refine sw_seq ?_
      -- region 5 cover.go:273
      refine sw_region [(0, 0)] rfl rfl rfl ?_
      have B19 := (Bx.gr Fw4_0 Gw5)
      refine sd_ev rfl rfl rfl (ev_st1 (cs' := [.bool true]) (one_4).siz rfl rfl rfl B19 rfl rfl) ?_
      rintro _ w6 ⟨Bw6, Mw6⟩
      have z20 := Mw6.size
      refine sd_done ?_
      refine sw_ret ?_
      refine block_r ?_
      have K_21 : Kz [(1, b1)] w4 w6 := (Kz.md (Kz.gr (Kz.refl _ _) Gw5) Mw6)
      have Kq21 : Kp ([b1]) w4 w6 := kp_of_kz K_21 (by intro k hk; simp only [Nin, and_true, List.mem_cons, List.mem_append, mem_zf, List.not_mem_nil, or_false, false_or, not_or, ne_eq, List.nil_append, List.cons_append, true_and, and_true, false_and, and_false, not_true_eq_false, not_false_eq_true, or_true, true_or] at hk ⊢; omega)
      exact ⟨Kq21, ([b1]), (by intro c hc; simp only [List.mem_cons, List.mem_append, mem_zf, List.not_mem_nil, or_false, false_or, not_or, ne_eq, List.nil_append, List.cons_append, true_and, and_true, false_and, and_false, not_true_eq_false, not_false_eq_true, or_true, true_or] at hc ⊢; omega), ⟨rfl, true, hm, rfl, Bw6, trivial⟩⟩
    ·
      replace hm := cnd_f c1 hm
      refine sw_skip ?_
      refine block_n ?_
      have B23 := (Bx.gr Fw4_0 Gw5)
      have K_22 : Kz [(1, b1)] w4 w5 := (Kz.gr (Kz.refl _ _) Gw5)
      have Kq22 : Kp ([b1]) w4 w5 := kp_of_kz K_22 (by intro k hk; simp only [Nin, and_true, List.mem_cons, List.mem_append, mem_zf, List.not_mem_nil, or_false, false_or, not_or, ne_eq, List.nil_append, List.cons_append, true_and, and_true, false_and, and_false, not_true_eq_false, not_false_eq_true, or_true, true_or] at hk ⊢; omega)
      subst hnx1
      exact ⟨Kq22, ([b1]), (by intro c hc; simp only [List.mem_cons, List.mem_append, mem_zf, List.not_mem_nil, or_false, false_or, not_or, ne_eq, List.nil_append, List.cons_append, true_and, and_true, false_and, and_false, not_true_eq_false, not_false_eq_true, or_true, true_or] at hc ⊢; omega), ⟨a4, hm, rfl, B23, trivial⟩⟩
  · clear hm; rintro Dw7 fp w7 hDw7 Dfw7 nw7 ⟨a4, hm, rfl, Fw7_0, -⟩ Kw7
    replace hm := itL_end hm
    have Zw7 : Kz [(1, b1)] w2 w7 := kz_of_kp Kw7 (by intro k hk; simp only [Nin, and_true, List.mem_cons, List.mem_append, mem_zf, List.not_mem_nil, or_false, false_or, not_or, ne_eq, List.nil_append, List.cons_append, true_and, and_true, false_and, and_false, not_true_eq_false, not_false_eq_true, or_true, true_or] at hk ⊢; omega)
    have z24 := Kw7.size
    have lt25 := Df.lt (w := w7) Dfw7
    simp only [List.mem_cons, List.mem_append, mem_zf, List.not_mem_nil, or_false, false_or, not_or, ne_eq, List.nil_append, List.cons_append, true_and, and_true, false_and, and_false, not_true_eq_false, not_false_eq_true, or_true, true_or, not_and] at nw7
    have lt26 := Fw7_0.lt
    unfold cover_Knows_1_D1 at hm
    try dsimp only at hm
    refine block_n ?_
    refine then_n ?_
    refine sw_seq ?_
    -- region 6 cover.go:276
    refine sw_region [(0, 0)] rfl rfl rfl ?_
    refine sd_ev rfl rfl rfl (ev_st1 (cs' := [.bool false]) (one_4).siz rfl rfl rfl Fw7_0 rfl rfl) ?_
    rintro _ w8 ⟨Bw8, Mw8⟩
    have z27 := Mw8.size
    refine sd_done ?_
    refine sw_ret ?_
    have DL28 := (Df.md Dfw7 Mw8)
    have L28 := Md.put (w := w8) Dw7 (.deferred none)
    have zL28 := L28.size
    have B29 := (Bx.md Bw8 L28)
    have X30 : Gr w (w8.putObj Dw7 (.deferred none)) := (Gr.md (Gr.md (Gr.kz X9 Zw7) Mw8) L28)
    have hr := Option.some.inj hm
    subst hr
    refine ⟨_, _, ⟨Dw7, rfl, DL28, rfl⟩, res_1 rfl (rv_cell1 one_4 rfl B29), ?_⟩
    exact ⟨rfl, X30⟩
  · clear hm; rintro Dw9 c rk fp w9 hDw9 Dfw9 nw9 hle ⟨rfl, a4, hm, rfl, Fw9_0, -⟩ Kw9
    have Zw9 : Kz [(1, b1)] w2 w9 := kz_of_kp Kw9 (by intro k hk; simp only [Nin, and_true, List.mem_cons, List.mem_append, mem_zf, List.not_mem_nil, or_false, false_or, not_or, ne_eq, List.nil_append, List.cons_append, true_and, and_true, false_and, and_false, not_true_eq_false, not_false_eq_true, or_true, true_or] at hk ⊢; omega)
    have z31 := Kw9.size
    have lt32 := Df.lt (w := w9) Dfw9
    simp only [List.mem_cons, List.mem_append, mem_zf, List.not_mem_nil, or_false, false_or, not_or, ne_eq, List.nil_append, List.cons_append, true_and, and_true, false_and, and_false, not_true_eq_false, not_false_eq_true, or_true, true_or, not_and] at nw9
    have lt33 := Fw9_0.lt
    unfold cover_Knows_1_X1_0 at hm
    try dsimp only at hm
    refine sw_ret ?_
    refine block_r ?_
    refine then_r ?_
    have DL34 := Dfw9
    have L34 := Md.put (w := w9) Dw9 (.deferred none)
    have zL34 := L34.size
    have B35 := (Bx.md Fw9_0 L34)
    have X36 : Gr w (w9.putObj Dw9 (.deferred none)) := (Gr.md (Gr.kz X9 Zw9) L34)
    have hr := Option.some.inj hm
    subst hr
    refine ⟨_, _, ⟨Dw9, rfl, DL34, rfl⟩, res_1 rfl (rv_cell1 one_4 rfl B35), ?_⟩
    exact ⟨rfl, X36⟩

set_option maxHeartbeats 2000000 in
theorem slices_IndexFunc_7bbb_cover_Knows_1_w (p0 : List Int) (p1_0 : Tcover_tree) (p1_1 : TSubset) (vp0 : Value) (zp0 gp0 op0 : Nat) (bp1_0 : Nat) (bp1_1 : Nat) (r : Int) (hm : slices_IndexFunc_7bbb_cover_Knows_1 p0 p1_0 p1_1 = some r) (w : World) (hp0 : Rd w zp0 gp0 op0 1 vp0 (p0.map ic)) (hbp1_0 : Bx w bp1_0 134 (Tcover_tree.cs p1_0)) (hbp1_1 : Bx w bp1_1 47 (TSubset.cs p1_1))  :
    Calls Try.prog 148 [vp0, .func (.func 111) [].toArray [.pointer (some ⟨bp1_0, 0, none⟩), .pointer (some ⟨bp1_1, 0, none⟩)].toArray].toArray w fun e w' => ∃ v, e = .returned v ∧ (v = .int .i64 r ∧ Gr w w') := by
  have lt1 := hp0.lth
  have lt2 := hbp1_0.lt
  have lt3 := hbp1_1.lt
  unfold slices_IndexFunc_7bbb_cover_Knows_1 at hm
  refine calls_of_sw (R := fun v w' => v = .int .i64 r ∧ Gr w w') 19 Try.func148 rfl rfl rfl ?_
  refine sw_seq ?_
  -- region 0 slices.go:107
  refine sw_region [(0, 0)] rfl rfl rfl ?_
  refine sd_vv rfl rfl rfl (vv_assign rfl) ?_
  refine sd_done ?_
  refine sw_seq ?_
  refine sw_seq ?_
  -- region 1 slices.go:108
  refine sw_region [(0, 0), (1, 0), (2, 0)] rfl rfl rfl ?_
  refine sd_vv rfl rfl rfl (vv_move rfl) ?_
  refine sd_vv rfl rfl rfl (vv_lenT (l := p0) (c := ic) Try.underlying61 rfl hp0) ?_
  refine sd_vv rfl rfl rfl (vv_move rfl) ?_
  refine sd_done ?_
  refine sw_block ?_
  refine sw_loopD (α := Nat × Int) [4, 5, 8, 9, 10, 11, 12, 13, 14, 15, 16, 17, 18] (fun ⟨n1, a2⟩ => [(4, .int .i64 0), (8, .int .i64 a2)]) (fun ⟨n1, a2⟩ wr => (fixN (slices_IndexFunc_7bbb_cover_Knows_1_L1 p0 p1_0 p1_1) n1 a2 = some r) ∧ Kz [] w wr) (fun ⟨n1, a2⟩ => n1) ⟨FUEL, 0⟩ ?_ ?_ ?_
  · repeat' first | exact trivial | refine ⟨rfl, ?_⟩
  · exact ⟨hm, Kz.refl _ _⟩
  · clear hm; rintro ⟨n1, a2⟩ w1 ⟨hm, Kw1⟩
    have z4 := Kw1.size
    have hb := fix_succ hm; clear hm; obtain ⟨n1, rfl, hm⟩ := hb
    generalize hrec1 : fixN (slices_IndexFunc_7bbb_cover_Knows_1_L1 p0 p1_0 p1_1) n1 = rec1 at hm
    unfold slices_IndexFunc_7bbb_cover_Knows_1_L1 at hm
    try dsimp only at hm
    refine sw_seq ?_
    -- region 2 slices.go:108
    refine sw_region [(0, 0)] rfl rfl rfl ?_
    refine sd_vv rfl rfl rfl (vv_lss (a := a2) (b := (p0.length : Int)) rfl rfl) ?_
    refine sd_done ?_
    refine sw_seq ?_
    refine sw_cond rfl (fun c1 => ?_) (fun c1 => ?_)
    ·
      replace hm := ite_t (of_decide_eq_true c1) hm
      refine sw_skip ?_
      refine then_n ?_
      refine sw_seq ?_
      refine sw_block ?_
      refine sw_seq ?_
      -- region 3 slices.go:108
      refine sw_region [(0, 0), (1, 0)] rfl rfl rfl ?_
      refine sd_vv rfl rfl rfl (vv_move rfl) ?_
      refine sd_vv rfl rfl rfl (vv_assign rfl) ?_
      refine sd_done ?_
      refine sw_seq ?_
      -- region 4 slices.go:109
      refine sw_region [(0, 0), (1, 0), (2, 0), (3, 0), (4, 0), (5, 0)] rfl rfl rfl ?_
      refine sd_vv rfl rfl rfl (vv_move rfl) ?_
      refine sd_vv rfl rfl rfl (vv_move rfl) ?_
      refine sd_vv rfl rfl rfl (vv_move rfl) ?_
      have hb := bnd hm; clear hm; obtain ⟨y3, hy3, hm⟩ := hb
      have B5 := (Rd.kz hp0 Kw1)
      refine sd_vv rfl rfl rfl (vv_ixT (i := a2) Try.underlying61 (one_3).siz rfl B5 rfl hy3) ?_
      refine sd_vv rfl rfl rfl (vv_el1T (q := 0) (u := .int .i64 y3) one_3 rfl B5 hy3 (by first | rfl | omega) rfl) ?_
      have B6 := (Bx.kz hbp1_0 Kw1)
      have B7 := (Bx.kz hbp1_1 Kw1)
      have hb := bnd hm; clear hm; obtain ⟨x4, hx4, hm⟩ := hb
      refine sd_ev rfl rfl rfl (ev_callV en_111 rfl rfl (cover_Knows_1_w y3 p1_0 p1_1 _ _ _ hx4 _ B6 B7)) ?_
      rintro _ w2 ⟨rfl, Gw2⟩
      have z8 := Gw2.size
      refine sd_done ?_
      refine sw_cond rfl (fun c2 => ?_) (fun c2 => ?_)
      ·
        replace hm := cnd_t c2 hm
        refine sw_seq ?_
        -- region 5 slices.go:110
        refine sw_region [(0, 0), (1, 0)] rfl rfl rfl ?_
        refine sd_vv rfl rfl rfl (vv_move rfl) ?_
        refine sd_vv rfl rfl rfl (vv_assign rfl) ?_
        refine sd_done ?_
        refine sw_ret ?_
        refine block_r ?_
        refine then_r ?_
        refine then_r ?_
        refine block_r ?_
        refine then_r ?_
        have X9 : Gr w w2 := (Gr.trans (Gr.kz (Gr.refl w) Kw1) Gw2)
        have hr := Option.some.inj hm
        subst hr
        refine ⟨_, _, rfl, res_1 rfl (rv_tmp rfl), ?_⟩
        exact ⟨rfl, X9⟩
      ·
        replace hm := cnd_f c2 hm
        refine sw_skip ?_
        refine block_n ?_
        refine then_n ?_
        -- region 6 slices.go:108
        refine sw_region [(0, 0), (1, 0)] rfl rfl rfl ?_
        refine sd_vv rfl rfl rfl (vv_add (k := .i64) (a := a2) (b := 1) rfl rfl) ?_
        refine sd_vv rfl rfl rfl (vv_move rfl) ?_
        refine sd_nil ?_
        have K_10 : Kz [] w w2 := (Kz.gr Kw1 Gw2)
        subst hrec1
        refine ⟨rfl, ⟨n1, w64 (a2 + 1)⟩, ?_, ⟨hm, K_10⟩, Nat.lt_succ_self _⟩
        repeat' first | exact trivial | refine ⟨rfl, ?_⟩
    ·
      replace hm := ite_f (of_decide_eq_false c1) hm
      refine sw_exit ?_
      refine then_x ?_
      refine then_x ?_
      refine block_x ?_
      refine then_n ?_
      refine sw_seq ?_
      -- region 7 slices.go:113
      refine sw_region [(0, 0)] rfl rfl rfl ?_
      refine sd_vv rfl rfl rfl (vv_assign rfl) ?_
      refine sd_done ?_
      refine sw_ret ?_
      have X11 : Gr w w1 := (Gr.kz (Gr.refl w) Kw1)
      have hr := Option.some.inj hm
      subst hr
      refine ⟨_, _, rfl, res_1 rfl (rv_tmp rfl), ?_⟩
      exact ⟨rfl, X11⟩

set_option maxHeartbeats 2000000 in
theorem slices_ContainsFunc_5954_cover_Knows_1_w (p0 : List Int) (p1_0 : Tcover_tree) (p1_1 : TSubset) (vp0 : Value) (zp0 gp0 op0 : Nat) (bp1_0 : Nat) (bp1_1 : Nat) (r : Bool) (hm : slices_ContainsFunc_5954_cover_Knows_1 p0 p1_0 p1_1 = some r) (w : World) (hp0 : Rd w zp0 gp0 op0 1 vp0 (p0.map ic)) (hbp1_0 : Bx w bp1_0 134 (Tcover_tree.cs p1_0)) (hbp1_1 : Bx w bp1_1 47 (TSubset.cs p1_1))  :
    Calls Try.prog 110 [vp0, .func (.func 111) [].toArray [.pointer (some ⟨bp1_0, 0, none⟩), .pointer (some ⟨bp1_1, 0, none⟩)].toArray].toArray w fun e w' => ∃ v, e = .returned v ∧ (v = .bool r ∧ Gr w w') := by
  have lt1 := hp0.lth
  have lt2 := hbp1_0.lt
  have lt3 := hbp1_1.lt
  unfold slices_ContainsFunc_5954_cover_Knows_1 at hm
  refine calls_of_sw (R := fun v w' => v = .bool r ∧ Gr w w') 9 Try.func110 rfl rfl rfl ?_
  refine sw_seq ?_
  -- region 0 slices.go:124
  refine sw_region [(0, 0)] rfl rfl rfl ?_
  refine sd_vv rfl rfl rfl (vv_assign rfl) ?_
  refine sd_done ?_
  refine sw_seq ?_
  -- region 1 slices.go:125
  refine sw_region [(0, 0), (1, 0), (2, 0), (3, 0), (4, 0)] rfl rfl rfl ?_
  refine sd_vv rfl rfl rfl (vv_move rfl) ?_
  refine sd_vv rfl rfl rfl (vv_move rfl) ?_
  have hb := bnd hm; clear hm; obtain ⟨x1, hx1, hm⟩ := hb
  refine sd_ev rfl rfl rfl (ev_call en_148 rfl (slices_IndexFunc_7bbb_cover_Knows_1_w p0 p1_0 p1_1 _ _ _ _ _ _ _ hx1 _ hp0 hbp1_0 hbp1_1)) ?_
  rintro _ w1 ⟨rfl, Gw1⟩
  have z4 := Gw1.size
  refine sd_vv rfl rfl rfl (vv_geq (a := x1) (b := 0) rfl rfl) ?_
  refine sd_vv rfl rfl rfl (vv_assign rfl) ?_
  refine sd_done ?_
  refine sw_ret ?_
  have X5 : Gr w w1 := (Gr.trans (Gr.refl w) Gw1)
  have hr := Option.some.inj hm
  subst hr
  refine ⟨_, _, rfl, res_1 rfl (rv_tmp rfl), ?_⟩
  exact ⟨rfl, X5⟩

set_option maxHeartbeats 2000000 in
theorem cover_Knows_w (p0 : TScheme) (p1 : List Int) (p2 : TSubset) (vp1 : Value) (zp1 gp1 op1 : Nat) (r : Bool × Int) (hm : cover_Knows p0 p1 p2 = some r) (w : World) (hp1 : Rd w zp1 gp1 op1 1 vp1 (p1.map ic))  :
    Calls Try.prog 52 [.agg (TScheme.cs p0).toArray, vp1, .agg (TSubset.cs p2).toArray].toArray w fun e w' => ∃ v, e = .returned v ∧ (v = .tuple [.bool r.1, .int .i64 r.2].toArray ∧ Gr w w') := by
  have lt1 := hp1.lth
  unfold cover_Knows at hm
  refine calls_of_sw (R := fun v w' => v = .tuple [.bool r.1, .int .i64 r.2].toArray ∧ Gr w w') 29 Try.func52 rfl rfl rfl ?_
  refine sw_seq ?_
  -- region 0 cover.go:259
  refine sw_region [(0, 0), (1, 0), (2, 0), (3, 0)] rfl rfl rfl ?_
  refine sd_ev rfl rfl rfl (ev_box (cs := TScheme.cs p0) rfl rfl) ?_
  rintro _ w1 ⟨b1, rfl, hbw1, Bw1, Gw1⟩
  have z2 := Gw1.size
  have lt3 := Bw1.lt
  refine sd_ev rfl rfl rfl (ev_box (cs := TSubset.cs p2) rfl rfl) ?_
  rintro _ w2 ⟨b2, rfl, hbw2, Bw2, Gw2⟩
  have z4 := Gw2.size
  have lt5 := Bw2.lt
  refine sd_vv rfl rfl rfl (vv_assign rfl) ?_
  refine sd_vv rfl rfl rfl (vv_assign rfl) ?_
  refine sd_done ?_
  refine sw_seq ?_
  -- region 1 cover.go:260
  refine sw_region [(0, 0), (1, 0), (2, 0), (3, 0), (4, 0), (5, 0), (6, 0), (7, 0)] rfl rfl rfl ?_
  have B6 := (Bx.gr Bw1 Gw2)
  refine sd_vv rfl rfl rfl (vv_loadW agg_45 rfl B6 rfl) ?_
  have hb := bnd hm; clear hm; obtain ⟨x1, hx1, hm⟩ := hb
  refine sd_ev rfl rfl rfl (ev_call en_74 rfl (cover_enter_w p0 ([] : List TSubset) _ _ _ _ _ hx1 _ (Own.rd (own_nil _ 0 47 2)))) ?_
  rintro _ w3 ⟨rfl, Gw3⟩
  have z7 := Gw3.size
  refine sd_vv rfl rfl rfl (vv_move rfl) ?_
  refine sd_vv rfl rfl rfl (vv_extract rfl rfl) ?_
  refine sd_vv rfl rfl rfl (vv_extract rfl rfl) ?_
  refine sd_ev rfl rfl rfl (ev_alloc (cs := Tcover_tree.cs (Tcover_tree.mk 0#8 0 0)) zv_134 rfl) ?_
  rintro _ w4 ⟨b4, rfl, hbw4, Bw4, Gw4⟩
  have z8 := Gw4.size
  have lt9 := Bw4.lt
  refine sd_ev rfl rfl rfl (ev_stM (cs' := Tcover_tree.cs x1.1) (vs := Tcover_tree.cs x1.1) (agg_134).siz rfl rfl rfl rfl rfl Bw4 rfl rfl) ?_
  rintro _ w5 ⟨Bw5, Mw5⟩
  have z10 := Mw5.size
  refine sd_vv rfl rfl rfl (vv_assign rfl) ?_
  refine sd_done ?_
  refine sw_seq ?_
  refine sw_seq ?_
  -- region 2 cover.go:261
  refine sw_region [(0, 0), (1, 0)] rfl rfl rfl ?_
  refine sd_vv rfl rfl rfl (vv_move rfl) ?_
  refine sd_vv rfl rfl rfl (vv_neq (a := x1.2) (b := 0) rfl rfl) ?_
  refine sd_done ?_
  refine sw_cond rfl (fun c1 => ?_) (fun c1 => ?_)
  ·
    replace hm := ite_t (of_decide_eq_true c1) hm
    refine sw_seq ?_
    -- region 3 cover.go:262
    refine sw_region [(0, 0), (1, 0), (2, 0)] rfl rfl rfl ?_
    refine sd_vv rfl rfl rfl (vv_move rfl) ?_
    refine sd_vv rfl rfl rfl (vv_assign rfl) ?_
    refine sd_vv rfl rfl rfl (vv_assign rfl) ?_
    refine sd_done ?_
    refine sw_ret ?_
    refine then_r ?_
    have X11 : Gr w w5 := (Gr.md (Gr.trans (Gr.trans (Gr.trans (Gr.trans (Gr.refl w) Gw1) Gw2) Gw3) Gw4) Mw5)
    have hr := Option.some.inj hm
    subst hr
    refine ⟨_, _, rfl, res_2 rfl (rv_tmp rfl) (rv_tmp rfl), ?_⟩
    exact ⟨rfl, X11⟩
  ·
    replace hm := ite_f (of_decide_eq_false c1) hm
    refine sw_skip ?_
    refine then_n ?_
    refine sw_seq ?_
    refine sw_seq ?_
    -- region 4 cover.go:264
    refine sw_region [(0, 0), (1, 0), (2, 0), (3, 0)] rfl rfl rfl ?_
    refine sd_vv rfl rfl rfl (vv_loadW agg_134 rfl Bw5 rfl) ?_
    refine sd_vv rfl rfl rfl (vv_move rfl) ?_
    have B12 := (Rd.md (Rd.gr (Rd.gr (Rd.gr (Rd.gr hp1 Gw1) Gw2) Gw3) Gw4) Mw5 (tk1 ((pv_lt (A := (fun x => x ≠ b4)) lt1) : zp1 = 0 ∨ gp1 ≠ b4)))
    have hb := bnd hm; clear hm; obtain ⟨x2, hx2, hm⟩ := hb
    refine sd_ev rfl rfl rfl (ev_call en_109 rfl (cover_tree_list_w x1.1 p1 _ _ _ _ _ hx2 _ B12)) ?_
    rintro _ w6 ⟨rfl, Gw6⟩
    have z13 := Gw6.size
    refine sd_vv rfl rfl rfl (vv_not rfl) ?_
    refine sd_done ?_
    refine sw_cond rfl (fun c2 => ?_) (fun c2 => ?_)
    ·
      replace hm := cnd_t c2 hm
      refine sw_seq ?_
      -- region 5 cover.go:265
      refine sw_region [(0, 0), (1, 0)] rfl rfl rfl ?_
      refine sd_vv rfl rfl rfl (vv_assign rfl) ?_
      refine sd_vv rfl rfl rfl (vv_assign rfl) ?_
      refine sd_done ?_
      refine sw_ret ?_
      refine then_r ?_
      have X14 : Gr w w6 := (Gr.trans (Gr.md (Gr.trans (Gr.trans (Gr.trans (Gr.trans (Gr.refl w) Gw1) Gw2) Gw3) Gw4) Mw5) Gw6)
      have hr := Option.some.inj hm
      subst hr
      refine ⟨_, _, rfl, res_2 rfl (rv_tmp rfl) (rv_tmp rfl), ?_⟩
      exact ⟨rfl, X14⟩
    ·
      replace hm := cnd_f c2 hm
      refine sw_skip ?_
      refine then_n ?_
      refine sw_seq ?_
      refine sw_seq ?_
      -- region 6 cover.go:267
      refine sw_region [(0, 0), (1, 0), (2, 0), (3, 0)] rfl rfl rfl ?_
      have B15 := (Bx.gr Bw5 Gw6)
      refine sd_vv rfl rfl rfl (vv_loadW agg_134 rfl B15 rfl) ?_
      have B16 := (Bx.gr (Bx.md (Bx.gr (Bx.gr Bw2 Gw3) Gw4) Mw5) Gw6)
      refine sd_vv rfl rfl rfl (vv_loadW agg_47 rfl B16 rfl) ?_
      have hb := bnd hm; clear hm; obtain ⟨x3, hx3, hm⟩ := hb
      refine sd_ev rfl rfl rfl (ev_call en_79 rfl (cover_tree_subset_w x1.1 p2 _ hx3 _)) ?_
      rintro _ w7 ⟨rfl, Gw7⟩
      have z17 := Gw7.size
      refine sd_vv rfl rfl rfl (vv_not rfl) ?_
      refine sd_done ?_
      refine sw_cond rfl (fun c3 => ?_) (fun c3 => ?_)
      ·
        replace hm := cnd_t c3 hm
        refine sw_seq ?_
        -- region 7 cover.go:268
        refine sw_region [(0, 0), (1, 0)] rfl rfl rfl ?_
        refine sd_vv rfl rfl rfl (vv_assign rfl) ?_
        refine sd_vv rfl rfl rfl (vv_assign rfl) ?_
        refine sd_done ?_
        refine sw_ret ?_
        refine then_r ?_
        have X18 : Gr w w7 := (Gr.trans (Gr.trans (Gr.md (Gr.trans (Gr.trans (Gr.trans (Gr.trans (Gr.refl w) Gw1) Gw2) Gw3) Gw4) Mw5) Gw6) Gw7)
        have hr := Option.some.inj hm
        subst hr
        refine ⟨_, _, rfl, res_2 rfl (rv_tmp rfl) (rv_tmp rfl), ?_⟩
        exact ⟨rfl, X18⟩
      ·
        replace hm := cnd_f c3 hm
        refine sw_skip ?_
        refine then_n ?_
        refine sw_seq ?_
        -- region 8 cover.go:270
        refine sw_region [(0, 0), (1, 0), (2, 0), (3, 0), (4, 0)] rfl rfl rfl ?_
        refine sd_vv rfl rfl rfl (vv_move rfl) ?_
        refine sd_vv rfl rfl rfl (vv_makeFunc rfl rfl) ?_
        have B19 := (Rd.gr (Rd.gr B12 Gw6) Gw7)
        have B20 := (Bx.gr B15 Gw7)
        have B21 := (Bx.gr B16 Gw7)
        have hb := bnd hm; clear hm; obtain ⟨x4, hx4, hm⟩ := hb
        refine sd_ev rfl rfl rfl (ev_call en_110 rfl (slices_ContainsFunc_5954_cover_Knows_1_w p1 x1.1 p2 _ _ _ _ _ _ _ hx4 _ B19 B20 B21)) ?_
        rintro _ w8 ⟨rfl, Gw8⟩
        have z22 := Gw8.size
        refine sd_vv rfl rfl rfl (vv_assign rfl) ?_
        refine sd_vv rfl rfl rfl (vv_assign rfl) ?_
        refine sd_done ?_
        refine sw_ret ?_
        have X23 : Gr w w8 := (Gr.trans (Gr.trans (Gr.trans (Gr.md (Gr.trans (Gr.trans (Gr.trans (Gr.trans (Gr.refl w) Gw1) Gw2) Gw3) Gw4) Mw5) Gw6) Gw7) Gw8)
        have hr := Option.some.inj hm
        subst hr
        refine ⟨_, _, rfl, res_2 rfl (rv_tmp rfl) (rv_tmp rfl), ?_⟩
        exact ⟨rfl, X23⟩

set_option maxHeartbeats 2000000 in
theorem ref03_Valid_w (p0 : TScheme)  (r : Bool) (hm : ref03_Valid p0 = some r) (w : World)   :
    Calls Try.prog 59 [.agg (TScheme.cs p0).toArray].toArray w fun e w' => ∃ v, e = .returned v ∧ (v = .bool r ∧ Gr w w') := by
  unfold ref03_Valid at hm
  refine calls_of_sw (R := fun v w' => v = .bool r ∧ Gr w w') 32 Try.func59 rfl rfl rfl ?_
  refine sw_seq ?_
  -- region 0 ref.go:29
  refine sw_region [(0, 0), (1, 0)] rfl rfl rfl ?_
  refine sd_ev rfl rfl rfl (ev_box (cs := TScheme.cs p0) rfl rfl) ?_
  rintro _ w1 ⟨b1, rfl, hbw1, Bw1, Gw1⟩
  have z1 := Gw1.size
  have lt2 := Bw1.lt
  refine sd_vv rfl rfl rfl (vv_assign rfl) ?_
  refine sd_done ?_
  refine sw_seq ?_
  -- region 1 ref.go:30
  refine sw_region [(0, 0), (1, 0), (2, 0), (3, 0), (4, 0), (5, 0), (6, 0), (7, 0), (8, 0), (9, 0), (10, 0), (11, 0), (12, 0), (13, 0), (14, 0), (15, 0), (16, 0), (17, 0), (18, 0), (19, 0), (20, 0), (21, 0), (22, 0), (23, 0), (24, 0), (25, 0), (26, 0), (27, 0), (28, 0), (29, 0)] rfl rfl rfl ?_
  refine sd_vv rfl rfl rfl (vv_fieldAddr fa_45_0 rfl) ?_
  refine sd_vv rfl rfl rfl (vv_load1 (v := bv p0.Kind) one_5 rfl Bw1 rfl) ?_
  refine sd_vv rfl rfl rfl (vv_geqB (p := p0.Kind) (q := 1#8) rfl rfl) ?_
  refine sd_split rfl rfl rfl (vv_move rfl) (fun c1 => ?_) (fun c1 => ?_)
  ·
    replace hm := ite_t (of_decide_eq_true c1) hm
    refine sd_vv rfl rfl rfl (vv_fieldAddr fa_45_0 rfl) ?_
    refine sd_vv rfl rfl rfl (vv_load1 (v := bv p0.Kind) one_5 rfl Bw1 rfl) ?_
    refine sd_vv rfl rfl rfl (vv_leqB (p := p0.Kind) (q := 3#8) rfl rfl) ?_
    refine sd_vv rfl rfl rfl (vv_pickT rfl rfl) ?_
    refine sd_split rfl rfl rfl (vv_move rfl) (fun c2 => ?_) (fun c2 => ?_)
    ·
      replace hm := ite_t (of_decide_eq_true c2) hm
      refine sd_vv rfl rfl rfl (vv_fieldAddr fa_45_1 rfl) ?_
      refine sd_vv rfl rfl rfl (vv_load1 (v := .int .i64 p0.Depth) one_3 rfl Bw1 rfl) ?_
      refine sd_vv rfl rfl rfl (vv_geq (a := p0.Depth) (b := 0) rfl rfl) ?_
      refine sd_vv rfl rfl rfl (vv_pickT rfl rfl) ?_
      refine sd_split rfl rfl rfl (vv_move rfl) (fun c3 => ?_) (fun c3 => ?_)
      ·
        replace hm := ite_t (of_decide_eq_true c3) hm
        refine sd_vv rfl rfl rfl (vv_fieldAddr fa_45_1 rfl) ?_
        refine sd_vv rfl rfl rfl (vv_load1 (v := .int .i64 p0.Depth) one_3 rfl Bw1 rfl) ?_
        refine sd_vv rfl rfl rfl (vv_leq (a := p0.Depth) (b := 6) rfl rfl) ?_
        refine sd_vv rfl rfl rfl (vv_pickT rfl rfl) ?_
        refine sd_split rfl rfl rfl (vv_move rfl) (fun c4 => ?_) (fun c4 => ?_)
        ·
          replace hm := ite_t (of_decide_eq_true c4) hm
          refine sd_vv rfl rfl rfl (vv_fieldAddr fa_45_2 rfl) ?_
          refine sd_vv rfl rfl rfl (vv_load1 (v := .int .i64 p0.Degree) one_3 rfl Bw1 rfl) ?_
          refine sd_vv rfl rfl rfl (vv_eql (a := p0.Degree) (b := 0) rfl rfl) ?_
          refine sd_vv rfl rfl rfl (vv_pickT rfl rfl) ?_
          refine sd_split rfl rfl rfl (vv_move rfl) (fun c5 => ?_) (fun c5 => ?_)
          ·
            replace hm := ite_t (of_decide_eq_true c5) hm
            refine sd_vv rfl rfl rfl (vv_fieldAddr fa_45_3 rfl) ?_
            refine sd_vv rfl rfl rfl (vv_loadM (vs := TGroup.cs p0.Group) agg_43 rfl Bw1 rfl rfl) ?_
            refine sd_vv rfl rfl rfl (vv_build (cs := TGroup.cs (TGroup.mk 0#64 0#64 0#64)) bs_43 rfl rfl) ?_
            refine sd_vv rfl rfl rfl (vv_eqlS (cf := TGroup.cs) (a := p0.Group) (b := (TGroup.mk 0#64 0#64 0#64)) eqt_43 rfl rfl rfl rfl (fun h => TGroup.cs_inj h)) ?_
            refine sd_vv rfl rfl rfl (vv_pickT rfl rfl) ?_
            refine sd_vv rfl rfl rfl (vv_assign rfl) ?_
            refine sd_done ?_
            refine sw_ret ?_
            have X3 : Gr w w1 := (Gr.trans (Gr.refl w) Gw1)
            have hr := Option.some.inj hm
            subst hr
            refine ⟨_, _, rfl, res_1 rfl (rv_tmp rfl), ?_⟩
            exact ⟨rfl, X3⟩
          ·
            replace hm := ite_f (of_decide_eq_false c5) hm
            refine sd_skip rfl rfl rfl ?_
            refine sd_skip rfl rfl rfl ?_
            refine sd_skip rfl rfl rfl ?_
            refine sd_skip rfl rfl rfl ?_
            refine sd_vv rfl rfl rfl (vv_pickF rfl rfl) ?_
            refine sd_vv rfl rfl rfl (vv_assign rfl) ?_
            refine sd_done ?_
            refine sw_ret ?_
            have X4 : Gr w w1 := (Gr.trans (Gr.refl w) Gw1)
            have hr := Option.some.inj hm
            subst hr
            refine ⟨_, _, rfl, res_1 rfl (rv_tmp rfl), ?_⟩
            exact ⟨rfl, X4⟩
        ·
          replace hm := ite_f (of_decide_eq_false c4) hm
          refine sd_skip rfl rfl rfl ?_
          refine sd_skip rfl rfl rfl ?_
          refine sd_skip rfl rfl rfl ?_
          refine sd_vv rfl rfl rfl (vv_pickF rfl rfl) ?_
          refine sd_vv rfl rfl rfl (vv_move rfl) ?_
          refine sd_skip rfl rfl rfl ?_
          refine sd_skip rfl rfl rfl ?_
          refine sd_skip rfl rfl rfl ?_
          refine sd_skip rfl rfl rfl ?_
          refine sd_vv rfl rfl rfl (vv_pickF rfl rfl) ?_
          refine sd_vv rfl rfl rfl (vv_assign rfl) ?_
          refine sd_done ?_
          refine sw_ret ?_
          have X5 : Gr w w1 := (Gr.trans (Gr.refl w) Gw1)
          have hr := Option.some.inj hm
          subst hr
          refine ⟨_, _, rfl, res_1 rfl (rv_tmp rfl), ?_⟩
          exact ⟨rfl, X5⟩
      ·
        replace hm := ite_f (of_decide_eq_false c3) hm
        refine sd_skip rfl rfl rfl ?_
        refine sd_skip rfl rfl rfl ?_
        refine sd_skip rfl rfl rfl ?_
        refine sd_vv rfl rfl rfl (vv_pickF rfl rfl) ?_
        refine sd_vv rfl rfl rfl (vv_move rfl) ?_
        refine sd_skip rfl rfl rfl ?_
        refine sd_skip rfl rfl rfl ?_
        refine sd_skip rfl rfl rfl ?_
        refine sd_vv rfl rfl rfl (vv_pickF rfl rfl) ?_
        refine sd_vv rfl rfl rfl (vv_move rfl) ?_
        refine sd_skip rfl rfl rfl ?_
        refine sd_skip rfl rfl rfl ?_
        refine sd_skip rfl rfl rfl ?_
        refine sd_skip rfl rfl rfl ?_
        refine sd_vv rfl rfl rfl (vv_pickF rfl rfl) ?_
        refine sd_vv rfl rfl rfl (vv_assign rfl) ?_
        refine sd_done ?_
        refine sw_ret ?_
        have X6 : Gr w w1 := (Gr.trans (Gr.refl w) Gw1)
        have hr := Option.some.inj hm
        subst hr
        refine ⟨_, _, rfl, res_1 rfl (rv_tmp rfl), ?_⟩
        exact ⟨rfl, X6⟩
    ·
      replace hm := ite_f (of_decide_eq_false c2) hm
      refine sd_skip rfl rfl rfl ?_
      refine sd_skip rfl rfl rfl ?_
      refine sd_skip rfl rfl rfl ?_
      refine sd_vv rfl rfl rfl (vv_pickF rfl rfl) ?_
      refine sd_vv rfl rfl rfl (vv_move rfl) ?_
      refine sd_skip rfl rfl rfl ?_
      refine sd_skip rfl rfl rfl ?_
      refine sd_skip rfl rfl rfl ?_
      refine sd_vv rfl rfl rfl (vv_pickF rfl rfl) ?_
      refine sd_vv rfl rfl rfl (vv_move rfl) ?_
      refine sd_skip rfl rfl rfl ?_
      refine sd_skip rfl rfl rfl ?_
      refine sd_skip rfl rfl rfl ?_
      refine sd_vv rfl rfl rfl (vv_pickF rfl rfl) ?_
      refine sd_vv rfl rfl rfl (vv_move rfl) ?_
      refine sd_skip rfl rfl rfl ?_
      refine sd_skip rfl rfl rfl ?_
      refine sd_skip rfl rfl rfl ?_
      refine sd_skip rfl rfl rfl ?_
      refine sd_vv rfl rfl rfl (vv_pickF rfl rfl) ?_
      refine sd_vv rfl rfl rfl (vv_assign rfl) ?_
      refine sd_done ?_
      refine sw_ret ?_
      have X7 : Gr w w1 := (Gr.trans (Gr.refl w) Gw1)
      have hr := Option.some.inj hm
      subst hr
      refine ⟨_, _, rfl, res_1 rfl (rv_tmp rfl), ?_⟩
      exact ⟨rfl, X7⟩
  ·
    replace hm := ite_f (of_decide_eq_false c1) hm
    refine sd_skip rfl rfl rfl ?_
    refine sd_skip rfl rfl rfl ?_
    refine sd_skip rfl rfl rfl ?_
    refine sd_vv rfl rfl rfl (vv_pickF rfl rfl) ?_
    refine sd_vv rfl rfl rfl (vv_move rfl) ?_
    refine sd_skip rfl rfl rfl ?_
    refine sd_skip rfl rfl rfl ?_
    refine sd_skip rfl rfl rfl ?_
    refine sd_vv rfl rfl rfl (vv_pickF rfl rfl) ?_
    refine sd_vv rfl rfl rfl (vv_move rfl) ?_
    refine sd_skip rfl rfl rfl ?_
    refine sd_skip rfl rfl rfl ?_
    refine sd_skip rfl rfl rfl ?_
    refine sd_vv rfl rfl rfl (vv_pickF rfl rfl) ?_
    refine sd_vv rfl rfl rfl (vv_move rfl) ?_
    refine sd_skip rfl rfl rfl ?_
    refine sd_skip rfl rfl rfl ?_
    refine sd_skip rfl rfl rfl ?_
    refine sd_vv rfl rfl rfl (vv_pickF rfl rfl) ?_
    refine sd_vv rfl rfl rfl (vv_move rfl) ?_
    refine sd_skip rfl rfl rfl ?_
    refine sd_skip rfl rfl rfl ?_
    refine sd_skip rfl rfl rfl ?_
    refine sd_skip rfl rfl rfl ?_
    refine sd_vv rfl rfl rfl (vv_pickF rfl rfl) ?_
    refine sd_vv rfl rfl rfl (vv_assign rfl) ?_
    refine sd_done ?_
    refine sw_ret ?_
    have X8 : Gr w w1 := (Gr.trans (Gr.refl w) Gw1)
    have hr := Option.some.inj hm
    subst hr
    refine ⟨_, _, rfl, res_1 rfl (rv_tmp rfl), ?_⟩
    exact ⟨rfl, X8⟩

set_option maxHeartbeats 2000000 in
theorem ref03_Receivers_w (p0 : Int)  (r : Int) (hm : ref03_Receivers p0 = some r) (w : World)   :
    Calls Try.prog 118 [.int .i64 p0].toArray w fun e w' => ∃ v, e = .returned v ∧ (v = .int .i64 r ∧ Gr w w') := by
  unfold ref03_Receivers at hm
  refine calls_of_sw (R := fun v w' => v = .int .i64 r ∧ Gr w w') 13 Try.func118 rfl rfl rfl ?_
  refine sw_seq ?_
  -- region 0 ref.go:42
  refine sw_region [(0, 0)] rfl rfl rfl ?_
  refine sd_vv rfl rfl rfl (vv_assign rfl) ?_
  refine sd_done ?_
  refine sw_seq ?_
  -- region 1 ref.go:43
  refine sw_region [(0, 0)] rfl rfl rfl ?_
  refine sd_vv rfl rfl rfl (vv_assign rfl) ?_
  refine sd_done ?_
  refine sw_seq ?_
  refine sw_seq ?_
  -- region 2 ref.go:44
  refine sw_region [(0, 0)] rfl rfl rfl ?_
  refine sd_vv rfl rfl rfl (vv_assign rfl) ?_
  refine sd_done ?_
  refine sw_block ?_
  refine sw_loopD (α := Nat × Int × Int) [3, 4, 5, 6, 7, 8, 9, 10, 11] (fun ⟨n1, a3, a4⟩ => [(3, .int .i64 a3), (4, .int .i64 a4)]) (fun ⟨n1, a3, a4⟩ wr => (fixN (ref03_Receivers_L1 p0) n1 (a3, a4) = some r) ∧ Kz [] w wr) (fun ⟨n1, a3, a4⟩ => n1) ⟨FUEL, 1, 0⟩ ?_ ?_ ?_
  · repeat' first | exact trivial | refine ⟨rfl, ?_⟩
  · exact ⟨hm, Kz.refl _ _⟩
  · clear hm; rintro ⟨n1, a3, a4⟩ w1 ⟨hm, Kw1⟩
    have z1 := Kw1.size
    have hb := fix_succ hm; clear hm; obtain ⟨n1, rfl, hm⟩ := hb
    generalize hrec1 : fixN (ref03_Receivers_L1 p0) n1 = rec1 at hm
    unfold ref03_Receivers_L1 at hm
    try dsimp only at hm
    refine sw_seq ?_
    refine sw_seq ?_
    -- region 3 ref.go:44
    refine sw_region [(0, 0), (1, 0), (2, 0)] rfl rfl rfl ?_
    refine sd_vv rfl rfl rfl (vv_move rfl) ?_
    refine sd_vv rfl rfl rfl (vv_move rfl) ?_
    refine sd_vv rfl rfl rfl (vv_lss (a := a4) (b := p0) rfl rfl) ?_
    refine sd_done ?_
    refine sw_cond rfl (fun c1 => ?_) (fun c1 => ?_)
    ·
      replace hm := ite_t (of_decide_eq_true c1) hm
      refine sw_skip ?_
      refine then_n ?_
      refine sw_seq ?_
      refine sw_block ?_
      -- region 5 ref.go:45
      refine sw_region [(0, 0), (1, 0), (2, 0)] rfl rfl rfl ?_
      refine sd_vv rfl rfl rfl (vv_move rfl) ?_
      refine sd_vv rfl rfl rfl (vv_mul (k := .i64) (a := 2) (b := a3) rfl rfl) ?_
      refine sd_vv rfl rfl rfl (vv_assign rfl) ?_
      refine sd_nil ?_
      refine block_n ?_
      refine then_n ?_
      -- region 4 ref.go:44
      refine sw_region [(0, 0), (1, 0), (2, 0)] rfl rfl rfl ?_
      refine sd_vv rfl rfl rfl (vv_move rfl) ?_
      refine sd_vv rfl rfl rfl (vv_add (k := .i64) (a := a4) (b := 1) rfl rfl) ?_
      refine sd_vv rfl rfl rfl (vv_assign rfl) ?_
      refine sd_nil ?_
      have K_2 : Kz [] w w1 := Kw1
      subst hrec1
      refine ⟨rfl, ⟨n1, w64 (2 * a3), w64 (a4 + 1)⟩, ?_, ⟨hm, K_2⟩, Nat.lt_succ_self _⟩
      repeat' first | exact trivial | refine ⟨rfl, ?_⟩
    ·
      replace hm := ite_f (of_decide_eq_false c1) hm
      refine sw_exit ?_
      refine then_x ?_
      refine then_x ?_
      refine block_x ?_
      refine then_n ?_
      refine sw_seq ?_
      -- region 6 ref.go:47
      refine sw_region [(0, 0), (1, 0)] rfl rfl rfl ?_
      refine sd_vv rfl rfl rfl (vv_move rfl) ?_
      refine sd_vv rfl rfl rfl (vv_assign rfl) ?_
      refine sd_done ?_
      refine sw_ret ?_
      have X3 : Gr w w1 := (Gr.kz (Gr.refl w) Kw1)
      have hr := Option.some.inj hm
      subst hr
      refine ⟨_, _, rfl, res_1 rfl (rv_tmp rfl), ?_⟩
      exact ⟨rfl, X3⟩

set_option maxHeartbeats 2000000 in
theorem ref03_IsList_w (p0 : Int) (p1 : List Int) (vp1 : Value) (zp1 gp1 op1 : Nat) (r : Bool) (hm : ref03_IsList p0 p1 = some r) (w : World) (hp1 : Rd w zp1 gp1 op1 1 vp1 (p1.map ic))  :
    Calls Try.prog 57 [.int .i64 p0, vp1].toArray w fun e w' => ∃ v, e = .returned v ∧ (v = .bool r ∧ Gr w w') := by
  have lt1 := hp1.lth
  unfold ref03_IsList at hm
  refine calls_of_sw (R := fun v w' => v = .bool r ∧ Gr w w') 42 Try.func57 rfl rfl rfl ?_
  refine sw_seq ?_
  -- region 0 ref.go:150
  refine sw_region [(0, 0)] rfl rfl rfl ?_
  refine sd_vv rfl rfl rfl (vv_assign rfl) ?_
  refine sd_done ?_
  refine sw_seq ?_
  refine sw_seq ?_
  -- region 1 ref.go:151
  refine sw_region [(0, 0)] rfl rfl rfl ?_
  refine sd_vv rfl rfl rfl (vv_assign rfl) ?_
  refine sd_done ?_
  refine sw_block ?_
  refine sw_loopD (α := Nat × Int) [4, 5, 6, 7, 8, 9, 10, 11, 12, 13, 14, 15, 16, 17, 18, 19, 20, 21, 22, 23, 24, 25, 26, 27, 28, 29, 30, 31, 32, 33, 34, 35, 36, 37, 38, 39, 40, 41] (fun ⟨n1, a2⟩ => [(4, .bool false), (5, .int .i64 a2)]) (fun ⟨n1, a2⟩ wr => (fixN (ref03_IsList_L1 p0 p1) n1 a2 = some r) ∧ Kz [] w wr) (fun ⟨n1, a2⟩ => n1) ⟨FUEL, 0⟩ ?_ ?_ ?_
  · repeat' first | exact trivial | refine ⟨rfl, ?_⟩
  · exact ⟨hm, Kz.refl _ _⟩
  · clear hm; rintro ⟨n1, a2⟩ w1 ⟨hm, Kw1⟩
    have z2 := Kw1.size
    have hb := fix_succ hm; clear hm; obtain ⟨n1, rfl, hm⟩ := hb
    generalize hrec1 : fixN (ref03_IsList_L1 p0 p1) n1 = rec1 at hm
    unfold ref03_IsList_L1 at hm
    try dsimp only at hm
    refine sw_seq ?_
    refine sw_seq ?_
    -- region 2 ref.go:151
    refine sw_region [(0, 0), (1, 0), (2, 0), (3, 0)] rfl rfl rfl ?_
    refine sd_vv rfl rfl rfl (vv_move rfl) ?_
    refine sd_vv rfl rfl rfl (vv_move rfl) ?_
    have B3 := (Rd.kz hp1 Kw1)
    refine sd_vv rfl rfl rfl (vv_lenT (l := p1) (c := ic) Try.underlying61 rfl B3) ?_
    refine sd_vv rfl rfl rfl (vv_lss (a := a2) (b := (p1.length : Int)) rfl rfl) ?_
    refine sd_done ?_
    refine sw_cond rfl (fun c1 => ?_) (fun c1 => ?_)
    ·
      replace hm := ite_t (of_decide_eq_true c1) hm
      refine sw_skip ?_
      refine then_n ?_
      refine sw_seq ?_
      refine sw_block ?_
      have X4 : Gr w w1 := (Gr.kz (Gr.refl w) Kw1)
      refine sw_joinD (β := Bool) [12, 13, 14, 15, 16, 17, 18, 19, 20, 21, 22, 23, 24, 25, 26, 27, 28, 29, 30, 31, 32, 33, 34, 35, 36, 37, 38, 39, 40, 41] (fun a3 => [(41, .bool a3)]) (fun a3 wr => (ref03_IsList_J2 a2 rec1 a3 = some r) ∧ Kz [] w1 wr) ?_ ?_
      · clear hm; rintro a3 w2 ⟨hm, Kw2⟩
        have z5 := Kw2.size
        unfold ref03_IsList_J2 at hm
        refine sw_cond rfl (fun c2 => ?_) (fun c2 => ?_)
        ·
          replace hm := cnd_t c2 hm
          refine sw_seq ?_
          -- region 5 ref.go:153
          refine sw_region [(0, 0)] rfl rfl rfl ?_
          refine sd_vv rfl rfl rfl (vv_assign rfl) ?_
          refine sd_done ?_
          refine sw_ret ?_
          refine block_r ?_
          refine then_r ?_
          refine then_r ?_
          refine block_r ?_
          refine then_r ?_
          have X6 : Gr w w2 := (Gr.kz X4 Kw2)
          have hr := Option.some.inj hm
          subst hr
          refine ⟨_, _, rfl, res_1 rfl (rv_tmp rfl), ?_⟩
          exact ⟨rfl, X6⟩
        ·
          replace hm := cnd_f c2 hm
          refine sw_skip ?_
          refine block_n ?_
          refine then_n ?_
          -- region 3 ref.go:151
          refine sw_region [(0, 0), (1, 0), (2, 0)] rfl rfl rfl ?_
          refine sd_vv rfl rfl rfl (vv_move rfl) ?_
          refine sd_vv rfl rfl rfl (vv_add (k := .i64) (a := a2) (b := 1) rfl rfl) ?_
          refine sd_vv rfl rfl rfl (vv_assign rfl) ?_
          refine sd_nil ?_
          have K_7 : Kz [] w w2 := (Kz.kz Kw1 Kw2)
          subst hrec1
          refine ⟨rfl, ⟨n1, w64 (a2 + 1)⟩, ?_, ⟨hm, K_7⟩, Nat.lt_succ_self _⟩
          repeat' first | exact trivial | refine ⟨rfl, ?_⟩
      ·
        -- region 4 ref.go:152 DRAWS
        refine sw_drawN [([])] [] (.leaf [(0, 10), (1, 10), (2, 10), (3, 10), (4, 10), (5, 10), (6, 10), (7, 10), (8, 10), (9, 10), (10, 10), (11, 0), (12, 10), (13, 10), (14, 10), (15, 10), (16, 10), (17, 10), (18, 10), (19, 10), (20, 10), (21, 10), (22, 10), (23, 10), (24, 10), (25, 10), (26, 10), (27, 10), (28, 10), (29, 10)]) (by kernel_rfl) (by kernel_rfl) rfl (by kernel_rfl) ?_
        intro w3 Gw3 zw3
        refine sdz_leaf ?_
        refine dd_hn 0 rfl rfl rfl rfl (Kp.refl ([]) w3) (fun w hS => vv_move rfl) ?_
        refine dd_hn 0 rfl rfl rfl rfl (Kp.refl ([]) w3) (fun w hS => vv_move rfl) ?_
        have hb := bnd hm; clear hm; obtain ⟨y4, hy4, hm⟩ := hb
        have B8 := (Rd.gr B3 Gw3)
        refine dd_hn 0 rfl rfl rfl rfl (Kp.refl ([]) w3) (fun w hS => vv_ixT (i := a2) Try.underlying61 (one_3).siz rfl (Rd.kp B8 hS) rfl hy4) ?_
        refine dd_hn 0 rfl rfl rfl rfl (Kp.refl ([]) w3) (fun w hS => vv_el1T (q := 0) (u := .int .i64 y4) one_3 rfl (Rd.kp B8 hS) hy4 (by first | rfl | omega) rfl) ?_
        refine dd_hn 0 rfl rfl rfl rfl (Kp.refl ([]) w3) (fun w hS => vv_lss (a := y4) (b := 0) rfl rfl) ?_
        refine dd_pn 0 rfl rfl rfl rfl (Kp.refl ([]) w3) (fun w hS => vv_move rfl) (fun c3 => ?_) (fun c3 => ?_)
        ·
          replace hm := ite_t (of_decide_eq_true c3) hm
          refine dd_sn 0 rfl rfl rfl rfl (Kp.refl ([]) w3) ?_
          refine dd_sn 0 rfl rfl rfl rfl (Kp.refl ([]) w3) ?_
          refine dd_sn 0 rfl rfl rfl rfl (Kp.refl ([]) w3) ?_
          refine dd_sn 0 rfl rfl rfl rfl (Kp.refl ([]) w3) ?_
          refine dd_sn 0 rfl rfl rfl rfl (Kp.refl ([]) w3) ?_
          refine dd_sz rfl rfl rfl ?_
          refine dd_sn 0 rfl rfl rfl rfl (Kp.refl ([]) w3) ?_
          refine dd_hn 0 rfl rfl rfl rfl (Kp.refl ([]) w3) (fun w hS => vv_pickT rfl rfl) ?_
          refine dd_hn 0 rfl rfl rfl rfl (Kp.refl ([]) w3) (fun w hS => vv_move rfl) ?_
          refine dd_sn 0 rfl rfl rfl rfl (Kp.refl ([]) w3) ?_
          refine dd_sn 0 rfl rfl rfl rfl (Kp.refl ([]) w3) ?_
          refine dd_sn 0 rfl rfl rfl rfl (Kp.refl ([]) w3) ?_
          refine dd_sn 0 rfl rfl rfl rfl (Kp.refl ([]) w3) ?_
          refine dd_sn 0 rfl rfl rfl rfl (Kp.refl ([]) w3) ?_
          refine dd_sn 0 rfl rfl rfl rfl (Kp.refl ([]) w3) ?_
          refine dd_sn 0 rfl rfl rfl rfl (Kp.refl ([]) w3) ?_
          refine dd_sn 0 rfl rfl rfl rfl (Kp.refl ([]) w3) ?_
          refine dd_sn 0 rfl rfl rfl rfl (Kp.refl ([]) w3) ?_
          refine dd_sn 0 rfl rfl rfl rfl (Kp.refl ([]) w3) ?_
          refine dd_sn 0 rfl rfl rfl rfl (Kp.refl ([]) w3) ?_
          refine dd_sn 0 rfl rfl rfl rfl (Kp.refl ([]) w3) ?_
          refine dd_sn 0 rfl rfl rfl rfl (Kp.refl ([]) w3) ?_
          refine dd_sn 0 rfl rfl rfl rfl (Kp.refl ([]) w3) ?_
          refine dd_hn 0 rfl rfl rfl rfl (Kp.refl ([]) w3) (fun w hS => vv_pickT rfl rfl) ?_
          refine sd_nil ?_
          have K_9 : Kz [] w1 w3 := (Kz.gr (Kz.refl _ _) Gw3)
          refine ⟨rfl, true, ?_, hm, K_9⟩
          repeat' first | exact trivial | refine ⟨rfl, ?_⟩
        ·
          replace hm := ite_f (of_decide_eq_false c3) hm
          refine dd_hn 0 rfl rfl rfl rfl (Kp.refl ([]) w3) (fun w hS => vv_move rfl) ?_
          refine dd_hn 0 rfl rfl rfl rfl (Kp.refl ([]) w3) (fun w hS => vv_move rfl) ?_
          have hb := bnd hm; clear hm; obtain ⟨y5, hy5, hm⟩ := hb
          refine dd_hn 0 rfl rfl rfl rfl (Kp.refl ([]) w3) (fun w hS => vv_ixT (i := a2) Try.underlying61 (one_3).siz rfl (Rd.kp B8 hS) rfl hy5) ?_
          refine dd_hn 0 rfl rfl rfl rfl (Kp.refl ([]) w3) (fun w hS => vv_el1T (q := 0) (u := .int .i64 y5) one_3 rfl (Rd.kp B8 hS) hy5 (by first | rfl | omega) rfl) ?_
          refine dd_hn 0 rfl rfl rfl rfl (Kp.refl ([]) w3) (fun w hS => vv_move rfl) ?_
          have hb := bnd hm; clear hm; obtain ⟨x6, hx6, hm⟩ := hb
          refine dd_z [] rfl rfl rfl (ev_call en_118 rfl (ref03_Receivers_w p0 _ hx6 _)) ⟨fun _ => tk0, trivial⟩ ?_
          rintro _ w4 ⟨rfl, Gw4⟩
          have z10 := Gw4.size
          refine ⟨Kz.ofGr Gw4, ?_⟩
          have S11 := (Kp.gr (Kp.refl ([]) w3) Gw4)
          refine dd_hn 0 rfl rfl rfl rfl S11 (fun w hS => vv_geq (a := y5) (b := x6) rfl rfl) ?_
          refine dd_hn 0 rfl rfl rfl rfl S11 (fun w hS => vv_pickF rfl rfl) ?_
          refine dd_pn 0 rfl rfl rfl rfl S11 (fun w hS => vv_move rfl) (fun c4 => ?_) (fun c4 => ?_)
          ·
            replace hm := ite_t (of_decide_eq_true c4) hm
            refine dd_sn 0 rfl rfl rfl rfl S11 ?_
            refine dd_sn 0 rfl rfl rfl rfl S11 ?_
            refine dd_sn 0 rfl rfl rfl rfl S11 ?_
            refine dd_sn 0 rfl rfl rfl rfl S11 ?_
            refine dd_sn 0 rfl rfl rfl rfl S11 ?_
            refine dd_sn 0 rfl rfl rfl rfl S11 ?_
            refine dd_sn 0 rfl rfl rfl rfl S11 ?_
            refine dd_sn 0 rfl rfl rfl rfl S11 ?_
            refine dd_sn 0 rfl rfl rfl rfl S11 ?_
            refine dd_sn 0 rfl rfl rfl rfl S11 ?_
            refine dd_sn 0 rfl rfl rfl rfl S11 ?_
            refine dd_sn 0 rfl rfl rfl rfl S11 ?_
            refine dd_sn 0 rfl rfl rfl rfl S11 ?_
            refine dd_sn 0 rfl rfl rfl rfl S11 ?_
            refine dd_hn 0 rfl rfl rfl rfl S11 (fun w hS => vv_pickT rfl rfl) ?_
            refine sd_nil ?_
            have K_12 : Kz [] w1 w4 := (Kz.gr (Kz.gr (Kz.refl _ _) Gw3) Gw4)
            refine ⟨rfl, true, ?_, hm, K_12⟩
            repeat' first | exact trivial | refine ⟨rfl, ?_⟩
          ·
            replace hm := ite_f (of_decide_eq_false c4) hm
            refine dd_hn 0 rfl rfl rfl rfl S11 (fun w hS => vv_move rfl) ?_
            refine dd_hn 0 rfl rfl rfl rfl S11 (fun w hS => vv_gtr (a := a2) (b := 0) rfl rfl) ?_
            refine dd_pn 0 rfl rfl rfl rfl S11 (fun w hS => vv_move rfl) (fun c5 => ?_) (fun c5 => ?_)
            ·
              replace hm := ite_t (of_decide_eq_true c5) hm
              refine dd_hn 0 rfl rfl rfl rfl S11 (fun w hS => vv_move rfl) ?_
              refine dd_hn 0 rfl rfl rfl rfl S11 (fun w hS => vv_move rfl) ?_
              have hb := bnd hm; clear hm; obtain ⟨y7, hy7, hm⟩ := hb
              refine dd_hn 0 rfl rfl rfl rfl S11 (fun w hS => vv_ixT (i := a2) Try.underlying61 (one_3).siz rfl (Rd.kp B8 hS) rfl hy7) ?_
              refine dd_hn 0 rfl rfl rfl rfl S11 (fun w hS => vv_el1T (q := 0) (u := .int .i64 y7) one_3 rfl (Rd.kp B8 hS) hy7 (by first | rfl | omega) rfl) ?_
              refine dd_hn 0 rfl rfl rfl rfl S11 (fun w hS => vv_move rfl) ?_
              refine dd_hn 0 rfl rfl rfl rfl S11 (fun w hS => vv_move rfl) ?_
              refine dd_hn 0 rfl rfl rfl rfl S11 (fun w hS => vv_sub (k := .i64) (a := a2) (b := 1) rfl rfl) ?_
              have hb := bnd hm; clear hm; obtain ⟨y8, hy8, hm⟩ := hb
              refine dd_hn 0 rfl rfl rfl rfl S11 (fun w hS => vv_ixT (i := w64 (a2 - 1)) Try.underlying61 (one_3).siz rfl (Rd.kp B8 hS) rfl hy8) ?_
              refine dd_hn 0 rfl rfl rfl rfl S11 (fun w hS => vv_el1T (q := 0) (u := .int .i64 y8) one_3 rfl (Rd.kp B8 hS) hy8 (by first | rfl | omega) rfl) ?_
              refine dd_hn 0 rfl rfl rfl rfl S11 (fun w hS => vv_leq (a := y7) (b := y8) rfl rfl) ?_
              refine dd_hn 0 rfl rfl rfl rfl S11 (fun w hS => vv_pickT rfl rfl) ?_
              refine dd_hn 0 rfl rfl rfl rfl S11 (fun w hS => vv_pickF rfl rfl) ?_
              refine sd_nil ?_
              have K_13 : Kz [] w1 w4 := (Kz.gr (Kz.gr (Kz.refl _ _) Gw3) Gw4)
              refine ⟨rfl, (decide (y7 ≤ y8)), ?_, hm, K_13⟩
              repeat' first | exact trivial | refine ⟨rfl, ?_⟩
            ·
              replace hm := ite_f (of_decide_eq_false c5) hm
              refine dd_sn 0 rfl rfl rfl rfl S11 ?_
              refine dd_sn 0 rfl rfl rfl rfl S11 ?_
              refine dd_sn 0 rfl rfl rfl rfl S11 ?_
              refine dd_sn 0 rfl rfl rfl rfl S11 ?_
              refine dd_sn 0 rfl rfl rfl rfl S11 ?_
              refine dd_sn 0 rfl rfl rfl rfl S11 ?_
              refine dd_sn 0 rfl rfl rfl rfl S11 ?_
              refine dd_sn 0 rfl rfl rfl rfl S11 ?_
              refine dd_sn 0 rfl rfl rfl rfl S11 ?_
              refine dd_sn 0 rfl rfl rfl rfl S11 ?_
              refine dd_hn 0 rfl rfl rfl rfl S11 (fun w hS => vv_pickF rfl rfl) ?_
              refine dd_hn 0 rfl rfl rfl rfl S11 (fun w hS => vv_pickF rfl rfl) ?_
              refine sd_nil ?_
              have K_14 : Kz [] w1 w4 := (Kz.gr (Kz.gr (Kz.refl _ _) Gw3) Gw4)
              refine ⟨rfl, false, ?_, hm, K_14⟩
              repeat' first | exact trivial | refine ⟨rfl, ?_⟩
    ·
      replace hm := ite_f (of_decide_eq_false c1) hm
      refine sw_exit ?_
      refine then_x ?_
      refine then_x ?_
      refine block_x ?_
      refine then_n ?_
      refine sw_seq ?_
      -- region 6 ref.go:156
      refine sw_region [(0, 0)] rfl rfl rfl ?_
      refine sd_vv rfl rfl rfl (vv_assign rfl) ?_
      refine sd_done ?_
      refine sw_ret ?_
      have X15 : Gr w w1 := (Gr.kz (Gr.refl w) Kw1)
      have hr := Option.some.inj hm
      subst hr
      refine ⟨_, _, rfl, res_1 rfl (rv_tmp rfl), ?_⟩
      exact ⟨rfl, X15⟩
end Go.Proofs.Ytecempahccgijaa.Mx
