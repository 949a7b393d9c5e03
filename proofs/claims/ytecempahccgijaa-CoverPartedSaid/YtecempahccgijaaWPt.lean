/- Walks that follow mirrors: WPt. Printed by mx.py. -/
import Derived.Test.YtecempahccgijaaAl
import Derived.Test.YtecempahccgijaaWPtM
set_option linter.unusedVariables false
set_option linter.unusedSimpArgs false
set_option maxRecDepth 100000
namespace Go.Proofs.Ytecempahccgijaa.Mx
open Go Go.RowKit Go.Sx
theorem bsl_48_2 : BSl Try.prog 48 2 47 2 [.int .i64 0, .int .i64 0, .int .i64 0, .int .i64 0] := bsl_mk Try.underlying48 (agg_47).siz zv_47 rfl rfl (by kernel_rfl)
theorem en_76 : En Try.prog 76 := fun _ _ => by kernel_rfl
theorem en_119 : En Try.prog 119 := fun _ _ => by kernel_rfl
theorem en_60 : En Try.prog 60 := fun _ _ => by kernel_rfl
theorem en_153 : En Try.prog 153 := fun _ _ => by kernel_rfl
theorem en_154 : En Try.prog 154 := fun _ _ => by kernel_rfl
theorem en_120 : En Try.prog 120 := fun _ _ => by kernel_rfl
theorem en_108 : En Try.prog 108 := fun _ _ => by kernel_rfl
theorem en_121 : En Try.prog 121 := fun _ _ => by kernel_rfl

set_option maxHeartbeats 2000000 in
theorem cover_Split_1_w (p0 : Int) (p1 : Int) (p2 : Int) (p3 : Int)  (r : List TSubset × Int) (hm : cover_Split_1 p0 p1 p2 p3 = some r) (w : World)   :
    Calls Try.prog 76 [.int .i64 p0, .int .i64 p1, .int .i64 p2, .int .i64 p3].toArray w fun e w' => ∃ v, e = .returned v ∧ (∃ (ur0_s : Value) (zr0_s : Nat) (gr0_s : Nat), v = .tuple [ur0_s, .int .i64 r.2].toArray ∧ Own w' zr0_s gr0_s 47 2 ur0_s (r.1.map TSubset.cs) ∧ Hdn (zr0_s = 0 ∨ w.heap.size ≤ gr0_s) ∧ Gr w w') := by
  unfold cover_Split_1 at hm
  refine calls_of_sw (R := fun v w' => ∃ (ur0_s : Value) (zr0_s : Nat) (gr0_s : Nat), v = .tuple [ur0_s, .int .i64 r.2].toArray ∧ Own w' zr0_s gr0_s 47 2 ur0_s (r.1.map TSubset.cs) ∧ Hdn (zr0_s = 0 ∨ w.heap.size ≤ gr0_s) ∧ Gr w w') 17 Try.func76 rfl rfl rfl ?_
  refine sw_seq ?_
  -- region 0 cover.go:112
  refine sw_region [(0, 0), (1, 0)] rfl rfl rfl ?_
  refine sd_vv rfl rfl rfl (vv_assign rfl) ?_
  refine sd_vv rfl rfl rfl (vv_assign rfl) ?_
  refine sd_done ?_
  refine sw_seq ?_
  -- region 1 cover.go:113
  refine sw_region [(0, 0), (1, 0), (2, 0), (3, 0), (4, 0), (5, 0), (6, 0), (7, 0), (8, 0)] rfl rfl rfl ?_
  refine sd_vv rfl rfl rfl (vv_move rfl) ?_
  refine sd_vv rfl rfl rfl (vv_move rfl) ?_
  refine sd_vv rfl rfl rfl (vv_build (cs := TSubset.cs (TSubset.mk p0 p1)) bs_47 rfl rfl) ?_
  refine sd_vv rfl rfl rfl (vv_move rfl) ?_
  refine sd_vv rfl rfl rfl (vv_move rfl) ?_
  refine sd_vv rfl rfl rfl (vv_build (cs := TSubset.cs (TSubset.mk p2 p3)) bs_47 rfl rfl) ?_
  refine sd_ev rfl rfl rfl (ev_litT [(TSubset.mk p0 p1), (TSubset.mk p2 p3)] TSubset.cs bsl_48_2 rfl rfl (ws_of rfl) rfl rfl rfl) ?_
  rintro vw1 w1 ⟨gw1, hbw1, Ow1, Gw1⟩
  have z1 := Gw1.size
  have lt2 := Ow1.lth
  refine sd_vv rfl rfl rfl (vv_assign rfl) ?_
  refine sd_vv rfl rfl rfl (vv_assign rfl) ?_
  refine sd_done ?_
  refine sw_ret ?_
  have X3 : Gr w w1 := (Gr.trans (Gr.refl w) Gw1)
  have hr := Option.some.inj hm
  subst hr
  refine ⟨_, _, rfl, res_2 rfl (rv_tmp rfl) (rv_tmp rfl), ?_⟩
  exact ⟨vw1, 1, gw1, rfl, Ow1, ⟨(.inr tk0)⟩, X3⟩

set_option maxHeartbeats 2000000 in
theorem cover_Split_w (p0 : TScheme) (p1 : TSubset)  (r : List TSubset × Int) (hm : cover_Split p0 p1 = some r) (w : World)   :
    Calls Try.prog 28 [.agg (TScheme.cs p0).toArray, .agg (TSubset.cs p1).toArray].toArray w fun e w' => ∃ v, e = .returned v ∧ (∃ (ur0_s : Value) (zr0_s : Nat) (gr0_s : Nat), v = .tuple [ur0_s, .int .i64 r.2].toArray ∧ Own w' zr0_s gr0_s 47 2 ur0_s (r.1.map TSubset.cs) ∧ Hdn (zr0_s = 0 ∨ w.heap.size ≤ gr0_s) ∧ Gr w w') := by
  unfold cover_Split at hm
  refine calls_of_sw (R := fun v w' => ∃ (ur0_s : Value) (zr0_s : Nat) (gr0_s : Nat), v = .tuple [ur0_s, .int .i64 r.2].toArray ∧ Own w' zr0_s gr0_s 47 2 ur0_s (r.1.map TSubset.cs) ∧ Hdn (zr0_s = 0 ∨ w.heap.size ≤ gr0_s) ∧ Gr w w') 94 Try.func28 rfl rfl rfl ?_
  refine sw_seq ?_
  -- region 0 cover.go:104
  refine sw_region [(0, 0), (1, 0), (2, 0), (3, 0)] rfl rfl rfl ?_
  refine sd_ev rfl rfl rfl (ev_box (cs := TScheme.cs p0) rfl rfl) ?_
  rintro _ w1 ⟨b1, rfl, hbw1, Bw1, Gw1⟩
  have z1 := Gw1.size
  have lt2 := Bw1.lt
  refine sd_ev rfl rfl rfl (ev_box (cs := TSubset.cs p1) rfl rfl) ?_
  rintro _ w2 ⟨b2, rfl, hbw2, Bw2, Gw2⟩
  have z3 := Gw2.size
  have lt4 := Bw2.lt
  refine sd_vv rfl rfl rfl (vv_assign rfl) ?_
  refine sd_vv rfl rfl rfl (vv_assign rfl) ?_
  refine sd_done ?_
  refine sw_seq ?_
  -- region 1 cover.go:105
  refine sw_region [(0, 0), (1, 0), (2, 0), (3, 0), (4, 0), (5, 0), (6, 0), (7, 0), (8, 0), (9, 0)] rfl rfl rfl ?_
  have B5 := (Bx.gr Bw1 Gw2)
  refine sd_vv rfl rfl rfl (vv_loadW agg_45 rfl B5 rfl) ?_
  refine sd_vv rfl rfl rfl (vv_loadW agg_47 rfl Bw2 rfl) ?_
  refine sd_ev rfl rfl rfl (ev_litT [p1] TSubset.cs bsl_48_1 rfl rfl (ws_of rfl) rfl rfl rfl) ?_
  rintro vw3 w3 ⟨gw3, hbw3, Ow3, Gw3⟩
  have z6 := Gw3.size
  have lt7 := Ow3.lth
  have hb := bnd hm; clear hm; obtain ⟨x1, hx1, hm⟩ := hb
  refine sd_ev rfl rfl rfl (ev_call en_74 rfl (cover_enter_w p0 [p1] _ _ _ _ _ hx1 _ (Own.rd Ow3))) ?_
  rintro _ w4 ⟨rfl, Gw4⟩
  have z8 := Gw4.size
  refine sd_vv rfl rfl rfl (vv_move rfl) ?_
  refine sd_vv rfl rfl rfl (vv_extract rfl rfl) ?_
  refine sd_vv rfl rfl rfl (vv_extract rfl rfl) ?_
  refine sd_ev rfl rfl rfl (ev_alloc (cs := Tcover_tree.cs (Tcover_tree.mk 0#8 0 0)) zv_134 rfl) ?_
  rintro _ w5 ⟨b5, rfl, hbw5, Bw5, Gw5⟩
  have z9 := Gw5.size
  have lt10 := Bw5.lt
  refine sd_ev rfl rfl rfl (ev_stM (cs' := Tcover_tree.cs x1.1) (vs := Tcover_tree.cs x1.1) (agg_134).siz rfl rfl rfl rfl rfl Bw5 rfl rfl) ?_
  rintro _ w6 ⟨Bw6, Mw6⟩
  have z11 := Mw6.size
  refine sd_vv rfl rfl rfl (vv_assign rfl) ?_
  refine sd_done ?_
  refine sw_seq ?_
  refine sw_seq ?_
  -- region 2 cover.go:106
  refine sw_region [(0, 0), (1, 0)] rfl rfl rfl ?_
  refine sd_vv rfl rfl rfl (vv_move rfl) ?_
  refine sd_vv rfl rfl rfl (vv_neq (a := x1.2) (b := 0) rfl rfl) ?_
  refine sd_done ?_
  refine sw_cond rfl (fun c1 => ?_) (fun c1 => ?_)
  ·
    replace hm := ite_t (of_decide_eq_true c1) hm
    refine sw_seq ?_
    -- region 3 cover.go:107
    refine sw_region [(0, 0), (1, 0), (2, 0)] rfl rfl rfl ?_
    refine sd_vv rfl rfl rfl (vv_move rfl) ?_
    refine sd_vv rfl rfl rfl (vv_assign rfl) ?_
    refine sd_vv rfl rfl rfl (vv_assign rfl) ?_
    refine sd_done ?_
    refine sw_ret ?_
    refine then_r ?_
    have X12 : Gr w w6 := (Gr.md (Gr.trans (Gr.trans (Gr.trans (Gr.trans (Gr.trans (Gr.refl w) Gw1) Gw2) Gw3) Gw4) Gw5) Mw6)
    have hr := Option.some.inj hm
    subst hr
    refine ⟨_, _, rfl, res_2 rfl (rv_tmp rfl) (rv_tmp rfl), ?_⟩
    exact ⟨(.slice none 0 0), 0, 0, rfl, (own_nil _ 0 47 2), ⟨.inl rfl⟩, X12⟩
  ·
    replace hm := ite_f (of_decide_eq_false c1) hm
    refine sw_skip ?_
    refine then_n ?_
    refine sw_seq ?_
    refine sw_seq ?_
    -- region 4 cover.go:109
    refine sw_region [(0, 0), (1, 0), (2, 0), (3, 0), (4, 0)] rfl rfl rfl ?_
    refine sd_vv rfl rfl rfl (vv_loadW agg_134 rfl Bw6 rfl) ?_
    have B13 := (Bx.md (Bx.gr (Bx.gr (Bx.gr Bw2 Gw3) Gw4) Gw5) Mw6)
    refine sd_vv rfl rfl rfl (vv_loadW agg_47 rfl B13 rfl) ?_
    have hb := bnd hm; clear hm; obtain ⟨x2, hx2, hm⟩ := hb
    refine sd_ev rfl rfl rfl (ev_call en_75 rfl (cover_tree_members_w x1.1 p1 _ hx2 _)) ?_
    rintro u7_r0_s w7 ⟨_, z7_r0_s, g7_r0_s, rfl, O7_r0_s, f7_r0_s, Gw7⟩
    have z14 := Gw7.size
    have lt15 := O7_r0_s.lth
    refine sd_vv rfl rfl rfl (vv_lenT (l := x2) (c := ic) Try.underlying61 rfl (Own.rd O7_r0_s)) ?_
    refine sd_vv rfl rfl rfl (vv_eql (a := (x2.length : Int)) (b := 1) rfl rfl) ?_
    refine sd_done ?_
    refine sw_cond rfl (fun c2 => ?_) (fun c2 => ?_)
    ·
      replace hm := ite_t (of_decide_eq_true c2) hm
      refine sw_seq ?_
      -- region 5 cover.go:110
      refine sw_region [(0, 0), (1, 0)] rfl rfl rfl ?_
      refine sd_vv rfl rfl rfl (vv_assign rfl) ?_
      refine sd_vv rfl rfl rfl (vv_assign rfl) ?_
      refine sd_done ?_
      refine sw_ret ?_
      refine then_r ?_
      have X16 : Gr w w7 := (Gr.trans (Gr.md (Gr.trans (Gr.trans (Gr.trans (Gr.trans (Gr.trans (Gr.refl w) Gw1) Gw2) Gw3) Gw4) Gw5) Mw6) Gw7)
      have hr := Option.some.inj hm
      subst hr
      refine ⟨_, _, rfl, res_2 rfl (rv_tmp rfl) (rv_tmp rfl), ?_⟩
      exact ⟨(.slice none 0 0), 0, 0, rfl, (own_nil _ 0 47 2), ⟨.inl rfl⟩, X16⟩
    ·
      replace hm := ite_f (of_decide_eq_false c2) hm
      refine sw_skip ?_
      refine then_n ?_
      refine sw_seq ?_
      -- region 6 cover.go:112
      refine sw_region [(0, 0)] rfl rfl rfl ?_
      refine sd_vv rfl rfl rfl (vv_assign rfl) ?_
      refine sd_done ?_
      refine sw_seq ?_
      refine sw_block ?_
      refine sw_seq ?_
      -- region 7 cover.go:116
      refine sw_region [(0, 0), (1, 0), (2, 0), (3, 0)] rfl rfl rfl ?_
      refine sd_vv rfl rfl rfl (vv_fieldAddr fa_134_0 rfl) ?_
      have B17 := (Bx.gr Bw6 Gw7)
      refine sd_vv rfl rfl rfl (vv_load1 (v := bv x1.1.kind) one_5 rfl B17 rfl) ?_
      refine sd_vv rfl rfl rfl (vv_eqlB (p := x1.1.kind) (q := 1#8) rfl rfl) ?_
      refine sd_vv rfl rfl rfl (vv_assign rfl) ?_
      refine sd_done ?_
      refine sw_cond rfl (fun c3 => ?_) (fun c3 => ?_)
      ·
        replace hm := ite_t (of_decide_eq_true c3) hm
        refine sw_seq ?_
        -- region 8 cover.go:117
        refine sw_region [(0, 0), (1, 0), (2, 0), (3, 0), (4, 0), (5, 0), (6, 0), (7, 0), (8, 0), (9, 0), (10, 0), (11, 0), (12, 0)] rfl rfl rfl ?_
        refine sd_vv rfl rfl rfl (vv_move rfl) ?_
        refine sd_vv rfl rfl rfl (vv_fieldAddr fa_47_0 rfl) ?_
        have B18 := (Bx.gr B13 Gw7)
        refine sd_vv rfl rfl rfl (vv_load1 (v := .int .i64 p1.Node) one_3 rfl B18 rfl) ?_
        refine sd_vv rfl rfl rfl (vv_mul (k := .i64) (a := 2) (b := p1.Node) rfl rfl) ?_
        refine sd_vv rfl rfl rfl (vv_fieldAddr fa_47_0 rfl) ?_
        refine sd_vv rfl rfl rfl (vv_load1 (v := .int .i64 p1.Node) one_3 rfl B18 rfl) ?_
        refine sd_vv rfl rfl rfl (vv_mul (k := .i64) (a := 2) (b := p1.Node) rfl rfl) ?_
        refine sd_vv rfl rfl rfl (vv_add (k := .i64) (a := w64 (2 * p1.Node)) (b := 1) rfl rfl) ?_
        have hb := bnd hm; clear hm; obtain ⟨x3, hx3, hm⟩ := hb
        refine sd_ev rfl rfl rfl (ev_callV en_76 rfl rfl (cover_Split_1_w (w64 (2 * p1.Node)) 0 (w64 ((w64 (2 * p1.Node)) + 1)) 0 _ hx3 _)) ?_
        rintro _ w8 ⟨u8_r0_s, z8_r0_s, g8_r0_s, rfl, O8_r0_s, f8_r0_s, Gw8⟩
        have z19 := Gw8.size
        have lt20 := O8_r0_s.lth
        refine sd_vv rfl rfl rfl (vv_extract rfl rfl) ?_
        refine sd_vv rfl rfl rfl (vv_extract rfl rfl) ?_
        refine sd_vv rfl rfl rfl (vv_assign rfl) ?_
        refine sd_vv rfl rfl rfl (vv_assign rfl) ?_
        refine sd_done ?_
        refine sw_ret ?_
        refine block_r ?_
        refine then_r ?_
        have X21 : Gr w w8 := (Gr.trans (Gr.trans (Gr.md (Gr.trans (Gr.trans (Gr.trans (Gr.trans (Gr.trans (Gr.refl w) Gw1) Gw2) Gw3) Gw4) Gw5) Mw6) Gw7) Gw8)
        have hr := Option.some.inj hm
        subst hr
        refine ⟨_, _, rfl, res_2 rfl (rv_tmp rfl) (rv_tmp rfl), ?_⟩
        exact ⟨u8_r0_s, z8_r0_s, g8_r0_s, rfl, O8_r0_s, ⟨(pv_0 (A := (fun x => w.heap.size ≤ x)) f8_r0_s)⟩, X21⟩
      ·
        replace hm := ite_f (of_decide_eq_false c3) hm
        refine sw_seq ?_
        -- region 9 cover.go:118
        refine sw_region [(0, 0), (1, 0), (2, 0), (3, 0)] rfl rfl rfl ?_
        refine sd_vv rfl rfl rfl (vv_fieldAddr fa_47_1 rfl) ?_
        have B22 := (Bx.gr B13 Gw7)
        refine sd_vv rfl rfl rfl (vv_load1 (v := .int .i64 p1.Minus) one_3 rfl B22 rfl) ?_
        refine sd_vv rfl rfl rfl (vv_eql (a := p1.Minus) (b := 0) rfl rfl) ?_
        refine sd_vv rfl rfl rfl (vv_assign rfl) ?_
        refine sd_done ?_
        refine sw_cond rfl (fun c4 => ?_) (fun c4 => ?_)
        ·
          replace hm := ite_t (of_decide_eq_true c4) hm
          refine sw_seq ?_
          -- region 10 cover.go:119
          refine sw_region [(0, 0), (1, 0), (2, 0), (3, 0), (4, 0), (5, 0)] rfl rfl rfl ?_
          refine sd_vv rfl rfl rfl (vv_move rfl) ?_
          have hb := bnd hm; clear hm; obtain ⟨x4, hx4, hm⟩ := hb
          refine sd_ev rfl rfl rfl (ev_callV en_76 rfl rfl (cover_Split_1_w 1 2 1 3 _ hx4 _)) ?_
          rintro _ w9 ⟨u9_r0_s, z9_r0_s, g9_r0_s, rfl, O9_r0_s, f9_r0_s, Gw9⟩
          have z23 := Gw9.size
          have lt24 := O9_r0_s.lth
          refine sd_vv rfl rfl rfl (vv_extract rfl rfl) ?_
          refine sd_vv rfl rfl rfl (vv_extract rfl rfl) ?_
          refine sd_vv rfl rfl rfl (vv_assign rfl) ?_
          refine sd_vv rfl rfl rfl (vv_assign rfl) ?_
          refine sd_done ?_
          refine sw_ret ?_
          refine block_r ?_
          refine then_r ?_
          have X25 : Gr w w9 := (Gr.trans (Gr.trans (Gr.md (Gr.trans (Gr.trans (Gr.trans (Gr.trans (Gr.trans (Gr.refl w) Gw1) Gw2) Gw3) Gw4) Gw5) Mw6) Gw7) Gw9)
          have hr := Option.some.inj hm
          subst hr
          refine ⟨_, _, rfl, res_2 rfl (rv_tmp rfl) (rv_tmp rfl), ?_⟩
          exact ⟨u9_r0_s, z9_r0_s, g9_r0_s, rfl, O9_r0_s, ⟨(pv_0 (A := (fun x => w.heap.size ≤ x)) f9_r0_s)⟩, X25⟩
        ·
          replace hm := ite_f (of_decide_eq_false c4) hm
          refine sw_skip ?_
          refine block_n ?_
          refine then_n ?_
          refine sw_seq ?_
          -- region 11 cover.go:121 DRAWS
          refine sw_drawN [([])] [] (.leaf [(0, 10), (1, 10), (2, 10), (3, 10), (4, 10), (5, 10)]) (by kernel_rfl) (by kernel_rfl) rfl (by kernel_rfl) ?_
          intro w10 Gw10 zw10
          refine sdz_leaf ?_
          refine dd_hn 0 rfl rfl rfl rfl (Kp.refl ([]) w10) (fun w hS => vv_fieldAddr fa_47_0 rfl) ?_
          have B26 := (Bx.gr B22 Gw10)
          refine dd_hn 0 rfl rfl rfl rfl (Kp.refl ([]) w10) (fun w hS => vv_load1 (v := .int .i64 p1.Node) one_3 rfl (Bx.kp B26 hS) rfl) ?_
          refine dd_hn 0 rfl rfl rfl rfl (Kp.refl ([]) w10) (fun w hS => vv_fieldAddr fa_47_1 rfl) ?_
          refine dd_hn 0 rfl rfl rfl rfl (Kp.refl ([]) w10) (fun w hS => vv_load1 (v := .int .i64 p1.Minus) one_3 rfl (Bx.kp B26 hS) rfl) ?_
          refine dd_hn 0 rfl rfl rfl rfl (Kp.refl ([]) w10) (fun w hS => vv_assign rfl) ?_
          refine dd_hn 0 rfl rfl rfl rfl (Kp.refl ([]) w10) (fun w hS => vv_assign rfl) ?_
          refine sd_done ?_
          refine sw_seq ?_
          -- region 12 cover.go:122
          refine sw_region [(0, 0), (1, 0), (2, 0), (3, 0)] rfl rfl rfl ?_
          refine sd_vv rfl rfl rfl (vv_move rfl) ?_
          refine sd_vv rfl rfl rfl (vv_move rfl) ?_
          have hb := bnd hm; clear hm; obtain ⟨x5, hx5, hm⟩ := hb
          refine sd_ev rfl rfl rfl (ev_call en_77 rfl (cover_node_toward_w p1.Node p1.Minus _ hx5 _)) ?_
          rintro _ w11 ⟨rfl, Gw11⟩
          have z27 := Gw11.size
          refine sd_vv rfl rfl rfl (vv_assign rfl) ?_
          refine sd_done ?_
          refine sw_seq ?_
          refine sw_seq ?_
          -- region 13 cover.go:123
          refine sw_region [(0, 0), (1, 0), (2, 0)] rfl rfl rfl ?_
          refine sd_vv rfl rfl rfl (vv_move rfl) ?_
          refine sd_vv rfl rfl rfl (vv_move rfl) ?_
          refine sd_vv rfl rfl rfl (vv_eql (a := x5) (b := p1.Minus) rfl rfl) ?_
          refine sd_done ?_
          refine sw_cond rfl (fun c5 => ?_) (fun c5 => ?_)
          ·
            replace hm := ite_t (of_decide_eq_true c5) hm
            refine sw_seq ?_
            -- region 14 cover.go:124
            refine sw_region [(0, 0), (1, 0), (2, 0)] rfl rfl rfl ?_
            refine sd_vv rfl rfl rfl (vv_move rfl) ?_
            have hb := bnd hm; clear hm; obtain ⟨x6, hx6, hm⟩ := hb
            refine sd_ev rfl rfl rfl (ev_call en_78 rfl (cover_node_sibling_w x5 _ hx6 _)) ?_
            rintro _ w12 ⟨rfl, Gw12⟩
            have z28 := Gw12.size
            refine sd_vv rfl rfl rfl (vv_assign rfl) ?_
            refine sd_done ?_
            refine sw_seq ?_
            -- region 15 cover.go:125
            refine sw_region [(0, 0), (1, 0), (2, 0), (3, 0), (4, 0), (5, 0), (6, 0), (7, 0), (8, 0), (9, 0), (10, 0), (11, 0), (12, 0)] rfl rfl rfl ?_
            refine sd_vv rfl rfl rfl (vv_move rfl) ?_
            refine sd_vv rfl rfl rfl (vv_move rfl) ?_
            refine sd_vv rfl rfl rfl (vv_move rfl) ?_
            refine sd_vv rfl rfl rfl (vv_mul (k := .i64) (a := 2) (b := x6) rfl rfl) ?_
            refine sd_vv rfl rfl rfl (vv_move rfl) ?_
            refine sd_vv rfl rfl rfl (vv_move rfl) ?_
            refine sd_vv rfl rfl rfl (vv_mul (k := .i64) (a := 2) (b := x6) rfl rfl) ?_
            refine sd_vv rfl rfl rfl (vv_add (k := .i64) (a := w64 (2 * x6)) (b := 1) rfl rfl) ?_
            have hb := bnd hm; clear hm; obtain ⟨x7, hx7, hm⟩ := hb
            refine sd_ev rfl rfl rfl (ev_callV en_76 rfl rfl (cover_Split_1_w x6 (w64 (2 * x6)) x6 (w64 ((w64 (2 * x6)) + 1)) _ hx7 _)) ?_
            rintro _ w13 ⟨u13_r0_s, z13_r0_s, g13_r0_s, rfl, O13_r0_s, f13_r0_s, Gw13⟩
            have z29 := Gw13.size
            have lt30 := O13_r0_s.lth
            refine sd_vv rfl rfl rfl (vv_extract rfl rfl) ?_
            refine sd_vv rfl rfl rfl (vv_extract rfl rfl) ?_
            refine sd_vv rfl rfl rfl (vv_assign rfl) ?_
            refine sd_vv rfl rfl rfl (vv_assign rfl) ?_
            refine sd_done ?_
            refine sw_ret ?_
            refine then_r ?_
            have X31 : Gr w w13 := (Gr.trans (Gr.trans (Gr.trans (Gr.trans (Gr.trans (Gr.md (Gr.trans (Gr.trans (Gr.trans (Gr.trans (Gr.trans (Gr.refl w) Gw1) Gw2) Gw3) Gw4) Gw5) Mw6) Gw7) Gw10) Gw11) Gw12) Gw13)
            have hr := Option.some.inj hm
            subst hr
            refine ⟨_, _, rfl, res_2 rfl (rv_tmp rfl) (rv_tmp rfl), ?_⟩
            exact ⟨u13_r0_s, z13_r0_s, g13_r0_s, rfl, O13_r0_s, ⟨(pv_0 (A := (fun x => w.heap.size ≤ x)) f13_r0_s)⟩, X31⟩
          ·
            replace hm := ite_f (of_decide_eq_false c5) hm
            refine sw_skip ?_
            refine then_n ?_
            have X32 : Gr w w11 := (Gr.trans (Gr.trans (Gr.trans (Gr.md (Gr.trans (Gr.trans (Gr.trans (Gr.trans (Gr.trans (Gr.refl w) Gw1) Gw2) Gw3) Gw4) Gw5) Mw6) Gw7) Gw10) Gw11)
            refine sw_joinD (β := Int) [11, 74, 75, 76, 77, 78, 79, 80, 81, 82, 83] (fun a8 => [(11, .int .i64 a8)]) (fun a8 wr => (cover_Split_J1 p1 a8 = some r) ∧ Kz [] w11 wr) ?_ ?_
            · clear hm; rintro a8 w14 ⟨hm, Kw14⟩
              have z33 := Kw14.size
              unfold cover_Split_J1 at hm
              refine sw_seq ?_
              -- region 18 cover.go:130
              refine sw_region [(0, 0), (1, 0), (2, 0), (3, 0), (4, 0), (5, 0), (6, 0), (7, 0), (8, 0), (9, 0), (10, 0), (11, 0)] rfl rfl rfl ?_
              refine sd_vv rfl rfl rfl (vv_move rfl) ?_
              refine sd_vv rfl rfl rfl (vv_fieldAddr fa_47_0 rfl) ?_
              have B34 := (Bx.kz (Bx.gr B26 Gw11) Kw14)
              refine sd_vv rfl rfl rfl (vv_load1 (v := .int .i64 p1.Node) one_3 rfl B34 rfl) ?_
              refine sd_vv rfl rfl rfl (vv_move rfl) ?_
              refine sd_vv rfl rfl rfl (vv_move rfl) ?_
              refine sd_vv rfl rfl rfl (vv_fieldAddr fa_47_1 rfl) ?_
              refine sd_vv rfl rfl rfl (vv_load1 (v := .int .i64 p1.Minus) one_3 rfl B34 rfl) ?_
              have hb := bnd hm; clear hm; obtain ⟨x9, hx9, hm⟩ := hb
              refine sd_ev rfl rfl rfl (ev_callV en_76 rfl rfl (cover_Split_1_w p1.Node a8 a8 p1.Minus _ hx9 _)) ?_
              rintro _ w15 ⟨u15_r0_s, z15_r0_s, g15_r0_s, rfl, O15_r0_s, f15_r0_s, Gw15⟩
              have z35 := Gw15.size
              have lt36 := O15_r0_s.lth
              refine sd_vv rfl rfl rfl (vv_extract rfl rfl) ?_
              refine sd_vv rfl rfl rfl (vv_extract rfl rfl) ?_
              refine sd_vv rfl rfl rfl (vv_assign rfl) ?_
              refine sd_vv rfl rfl rfl (vv_assign rfl) ?_
              refine sd_done ?_
              refine sw_ret ?_
              have X37 : Gr w w15 := (Gr.trans (Gr.kz X32 Kw14) Gw15)
              have hr := Option.some.inj hm
              subst hr
              refine ⟨_, _, rfl, res_2 rfl (rv_tmp rfl) (rv_tmp rfl), ?_⟩
              exact ⟨u15_r0_s, z15_r0_s, g15_r0_s, rfl, O15_r0_s, ⟨(pv_0 (A := (fun x => w.heap.size ≤ x)) f15_r0_s)⟩, X37⟩
            ·
              refine sw_seq ?_
              -- region 16 cover.go:127
              refine sw_region [(0, 0), (1, 0), (2, 0), (3, 0), (4, 0), (5, 0)] rfl rfl rfl ?_
              have B38 := (Bx.gr (Bx.gr B17 Gw10) Gw11)
              refine sd_vv rfl rfl rfl (vv_loadW agg_134 rfl B38 rfl) ?_
              refine sd_vv rfl rfl rfl (vv_move rfl) ?_
              refine sd_vv rfl rfl rfl (vv_move rfl) ?_
              refine sd_vv rfl rfl rfl (vv_build (cs := TSubset.cs (TSubset.mk x5 p1.Minus)) bs_47 rfl rfl) ?_
              have hb := bnd hm; clear hm; obtain ⟨x10, hx10, hm⟩ := hb
              refine sd_ev rfl rfl rfl (ev_call en_79 rfl (cover_tree_subset_w x1.1 (TSubset.mk x5 p1.Minus) _ hx10 _)) ?_
              rintro _ w16 ⟨rfl, Gw16⟩
              have z39 := Gw16.size
              refine sd_vv rfl rfl rfl (vv_not rfl) ?_
              refine sd_done ?_
              refine sw_cond rfl (fun c6 => ?_) (fun c6 => ?_)
              ·
                replace hm := cnd_t c6 hm
                -- region 17 cover.go:128
                refine sw_region [(0, 0), (1, 0), (2, 0), (3, 0), (4, 0)] rfl rfl rfl ?_
                have B40 := (Bx.gr B38 Gw16)
                refine sd_vv rfl rfl rfl (vv_loadW agg_134 rfl B40 rfl) ?_
                refine sd_vv rfl rfl rfl (vv_move rfl) ?_
                refine sd_vv rfl rfl rfl (vv_move rfl) ?_
                have hb := bnd hm; clear hm; obtain ⟨x11, hx11, hm⟩ := hb
                refine sd_ev rfl rfl rfl (ev_call en_80 rfl (cover_tree_cut_w x1.1 p1.Node p1.Minus _ hx11 _)) ?_
                rintro _ w17 ⟨rfl, Gw17⟩
                have z41 := Gw17.size
                refine sd_vv rfl rfl rfl (vv_assign rfl) ?_
                refine sd_nil ?_
                have K_42 : Kz [] w11 w17 := (Kz.gr (Kz.gr (Kz.refl _ _) Gw16) Gw17)
                refine ⟨rfl, x11, ?_, hm, K_42⟩
                repeat' first | exact trivial | refine ⟨rfl, ?_⟩
              ·
                replace hm := cnd_f c6 hm
                refine sw_skip ?_
                have K_43 : Kz [] w11 w16 := (Kz.gr (Kz.refl _ _) Gw16)
                refine ⟨rfl, x5, ?_, hm, K_43⟩
                repeat' first | exact trivial | refine ⟨rfl, ?_⟩

set_option maxHeartbeats 2000000 in
theorem ref03_Node_w (p0 : Int) (p1 : Int)  (r : Bool) (hm : ref03_Node p0 p1 = some r) (w : World)   :
    Calls Try.prog 119 [.int .i64 p0, .int .i64 p1].toArray w fun e w' => ∃ v, e = .returned v ∧ (v = .bool r ∧ Gr w w') := by
  unfold ref03_Node at hm
  refine calls_of_sw (R := fun v w' => v = .bool r ∧ Gr w w') 14 Try.func119 rfl rfl rfl ?_
  refine sw_seq ?_
  -- region 0 ref.go:51
  refine sw_region [(0, 0)] rfl rfl rfl ?_
  refine sd_vv rfl rfl rfl (vv_assign rfl) ?_
  refine sd_done ?_
  refine sw_seq ?_
  -- region 1 ref.go:51
  refine sw_region [(0, 0), (1, 0), (2, 0), (3, 0), (4, 0), (5, 0), (6, 0), (7, 0), (8, 0), (9, 0)] rfl rfl rfl ?_
  refine sd_vv rfl rfl rfl (vv_move rfl) ?_
  refine sd_vv rfl rfl rfl (vv_geq (a := p1) (b := 1) rfl rfl) ?_
  refine sd_split rfl rfl rfl (vv_move rfl) (fun c1 => ?_) (fun c1 => ?_)
  ·
    replace hm := ite_t (of_decide_eq_true c1) hm
    refine sd_vv rfl rfl rfl (vv_move rfl) ?_
    refine sd_vv rfl rfl rfl (vv_move rfl) ?_
    have hb := bnd hm; clear hm; obtain ⟨x1, hx1, hm⟩ := hb
    refine sd_ev rfl rfl rfl (ev_call en_118 rfl (ref03_Receivers_w p0 _ hx1 _)) ?_
    rintro _ w1 ⟨rfl, Gw1⟩
    have z1 := Gw1.size
    refine sd_vv rfl rfl rfl (vv_mul (k := .i64) (a := 2) (b := x1) rfl rfl) ?_
    refine sd_vv rfl rfl rfl (vv_lss (a := p1) (b := w64 (2 * x1)) rfl rfl) ?_
    refine sd_vv rfl rfl rfl (vv_pickT rfl rfl) ?_
    refine sd_vv rfl rfl rfl (vv_assign rfl) ?_
    refine sd_done ?_
    refine sw_ret ?_
    have X2 : Gr w w1 := (Gr.trans (Gr.refl w) Gw1)
    have hr := Option.some.inj hm
    subst hr
    refine ⟨_, _, rfl, res_1 rfl (rv_tmp rfl), ?_⟩
    exact ⟨rfl, X2⟩
  ·
    replace hm := ite_f (of_decide_eq_false c1) hm
    refine sd_skip rfl rfl rfl ?_
    refine sd_skip rfl rfl rfl ?_
    refine sd_skip rfl rfl rfl ?_
    refine sd_skip rfl rfl rfl ?_
    refine sd_skip rfl rfl rfl ?_
    refine sd_vv rfl rfl rfl (vv_pickF rfl rfl) ?_
    refine sd_vv rfl rfl rfl (vv_assign rfl) ?_
    refine sd_done ?_
    refine sw_ret ?_
    have hr := Option.some.inj hm
    subst hr
    refine ⟨_, _, rfl, res_1 rfl (rv_tmp rfl), ?_⟩
    exact ⟨rfl, (Gr.refl w)⟩

set_option maxHeartbeats 2000000 in
theorem ref03_Below_w (p0 : Int) (p1 : Int)  (r : Bool) (hm : ref03_Below p0 p1 = some r) (w : World)   :
    Calls Try.prog 60 [.int .i64 p0, .int .i64 p1].toArray w fun e w' => ∃ v, e = .returned v ∧ (v = .bool r ∧ Gr w w') := by
  unfold ref03_Below at hm
  refine calls_of_sw (R := fun v w' => v = .bool r ∧ Gr w w') 13 Try.func60 rfl rfl rfl ?_
  refine sw_seq ?_
  -- region 0 ref.go:64
  refine sw_region [(0, 0)] rfl rfl rfl ?_
  refine sd_vv rfl rfl rfl (vv_assign rfl) ?_
  refine sd_done ?_
  refine sw_seq ?_
  refine sw_block ?_
  refine sw_loopD (α := Nat × Int) [0, 5, 6, 7, 8, 9] (fun ⟨n1, a2⟩ => [(0, .int .i64 a2)]) (fun ⟨n1, a2⟩ wr => (fixN (ref03_Below_L1 p1) n1 a2 = some r) ∧ Kz [] w wr) (fun ⟨n1, a2⟩ => n1) ⟨FUEL, p0⟩ ?_ ?_ ?_
  · repeat' first | exact trivial | refine ⟨rfl, ?_⟩
  · exact ⟨hm, Kz.refl _ _⟩
  · clear hm; rintro ⟨n1, a2⟩ w1 ⟨hm, Kw1⟩
    have z1 := Kw1.size
    have hb := fix_succ hm; clear hm; obtain ⟨n1, rfl, hm⟩ := hb
    generalize hrec1 : fixN (ref03_Below_L1 p1) n1 = rec1 at hm
    unfold ref03_Below_L1 at hm
    try dsimp only at hm
    refine sw_seq ?_
    refine sw_seq ?_
    -- region 1 ref.go:65
    refine sw_region [(0, 0), (1, 0), (2, 0)] rfl rfl rfl ?_
    refine sd_vv rfl rfl rfl (vv_move rfl) ?_
    refine sd_vv rfl rfl rfl (vv_move rfl) ?_
    refine sd_vv rfl rfl rfl (vv_gtr (a := a2) (b := p1) rfl rfl) ?_
    refine sd_done ?_
    refine sw_cond rfl (fun c1 => ?_) (fun c1 => ?_)
    ·
      replace hm := ite_t (of_decide_eq_true c1) hm
      refine sw_skip ?_
      refine then_n ?_
      refine sw_block ?_
      -- region 2 ref.go:66
      refine sw_region [(0, 0), (1, 0), (2, 0)] rfl rfl rfl ?_
      refine sd_vv rfl rfl rfl (vv_move rfl) ?_
      have hb := bnd hm; clear hm; obtain ⟨x3, hx3, hm⟩ := hb
      refine sd_vv rfl rfl rfl (vv_quoI (a := a2) (b := 2) rfl rfl hx3) ?_
      refine sd_vv rfl rfl rfl (vv_assign rfl) ?_
      refine sd_nil ?_
      refine block_n ?_
      have K_2 : Kz [] w w1 := Kw1
      subst hrec1
      refine ⟨rfl, ⟨n1, x3⟩, ?_, ⟨hm, K_2⟩, Nat.lt_succ_self _⟩
      repeat' first | exact trivial | refine ⟨rfl, ?_⟩
    ·
      replace hm := ite_f (of_decide_eq_false c1) hm
      refine sw_exit ?_
      refine then_x ?_
      refine then_x ?_
      refine block_x ?_
      refine then_n ?_
      refine sw_seq ?_
      -- region 3 ref.go:68
      refine sw_region [(0, 0), (1, 0), (2, 0), (3, 0)] rfl rfl rfl ?_
      refine sd_vv rfl rfl rfl (vv_move rfl) ?_
      refine sd_vv rfl rfl rfl (vv_move rfl) ?_
      refine sd_vv rfl rfl rfl (vv_eql (a := a2) (b := p1) rfl rfl) ?_
      refine sd_vv rfl rfl rfl (vv_assign rfl) ?_
      refine sd_done ?_
      refine sw_ret ?_
      have X3 : Gr w w1 := (Gr.kz (Gr.refl w) Kw1)
      have hr := Option.some.inj hm
      subst hr
      refine ⟨_, _, rfl, res_1 rfl (rv_tmp rfl), ?_⟩
      exact ⟨rfl, X3⟩

set_option maxHeartbeats 2000000 in
theorem ref03_Level_w (p0 : Int)  (r : Int) (hm : ref03_Level p0 = some r) (w : World)   :
    Calls Try.prog 153 [.int .i64 p0].toArray w fun e w' => ∃ v, e = .returned v ∧ (v = .int .i64 r ∧ Gr w w') := by
  unfold ref03_Level at hm
  refine calls_of_sw (R := fun v w' => v = .int .i64 r ∧ Gr w w') 11 Try.func153 rfl rfl rfl ?_
  refine sw_seq ?_
  -- region 0 ref.go:54
  refine sw_region [(0, 0)] rfl rfl rfl ?_
  refine sd_vv rfl rfl rfl (vv_assign rfl) ?_
  refine sd_done ?_
  refine sw_seq ?_
  -- region 1 ref.go:55
  refine sw_region [(0, 0)] rfl rfl rfl ?_
  refine sd_vv rfl rfl rfl (vv_assign rfl) ?_
  refine sd_done ?_
  refine sw_seq ?_
  refine sw_block ?_
  refine sw_loopD (α := Nat × Int × Int) [0, 3, 4, 5, 6, 7, 8, 9] (fun ⟨n1, a3, a4⟩ => [(0, .int .i64 a3), (3, .int .i64 a4)]) (fun ⟨n1, a3, a4⟩ wr => (fixN (ref03_Level_L1) n1 (a3, a4) = some r) ∧ Kz [] w wr) (fun ⟨n1, a3, a4⟩ => n1) ⟨FUEL, p0, 0⟩ ?_ ?_ ?_
  · repeat' first | exact trivial | refine ⟨rfl, ?_⟩
  · exact ⟨hm, Kz.refl _ _⟩
  · clear hm; rintro ⟨n1, a3, a4⟩ w1 ⟨hm, Kw1⟩
    have z1 := Kw1.size
    have hb := fix_succ hm; clear hm; obtain ⟨n1, rfl, hm⟩ := hb
    generalize hrec1 : fixN (ref03_Level_L1) n1 = rec1 at hm
    unfold ref03_Level_L1 at hm
    try dsimp only at hm
    refine sw_seq ?_
    refine sw_seq ?_
    -- region 2 ref.go:56
    refine sw_region [(0, 0), (1, 0)] rfl rfl rfl ?_
    refine sd_vv rfl rfl rfl (vv_move rfl) ?_
    refine sd_vv rfl rfl rfl (vv_gtr (a := a3) (b := 1) rfl rfl) ?_
    refine sd_done ?_
    refine sw_cond rfl (fun c1 => ?_) (fun c1 => ?_)
    ·
      replace hm := ite_t (of_decide_eq_true c1) hm
      refine sw_skip ?_
      refine then_n ?_
      refine sw_block ?_
      refine sw_seq ?_
      -- region 3 ref.go:57
      refine sw_region [(0, 0), (1, 0), (2, 0)] rfl rfl rfl ?_
      refine sd_vv rfl rfl rfl (vv_move rfl) ?_
      have hb := bnd hm; clear hm; obtain ⟨x5, hx5, hm⟩ := hb
      refine sd_vv rfl rfl rfl (vv_quoI (a := a3) (b := 2) rfl rfl hx5) ?_
      refine sd_vv rfl rfl rfl (vv_assign rfl) ?_
      refine sd_done ?_
      -- region 4 ref.go:58
      refine sw_region [(0, 0), (1, 0), (2, 0)] rfl rfl rfl ?_
      refine sd_vv rfl rfl rfl (vv_move rfl) ?_
      refine sd_vv rfl rfl rfl (vv_add (k := .i64) (a := a4) (b := 1) rfl rfl) ?_
      refine sd_vv rfl rfl rfl (vv_assign rfl) ?_
      refine sd_nil ?_
      refine block_n ?_
      have K_2 : Kz [] w w1 := Kw1
      subst hrec1
      refine ⟨rfl, ⟨n1, x5, w64 (a4 + 1)⟩, ?_, ⟨hm, K_2⟩, Nat.lt_succ_self _⟩
      repeat' first | exact trivial | refine ⟨rfl, ?_⟩
    ·
      replace hm := ite_f (of_decide_eq_false c1) hm
      refine sw_exit ?_
      refine then_x ?_
      refine then_x ?_
      refine block_x ?_
      refine then_n ?_
      refine sw_seq ?_
      -- region 5 ref.go:60
      refine sw_region [(0, 0), (1, 0)] rfl rfl rfl ?_
      refine sd_vv rfl rfl rfl (vv_move rfl) ?_
      refine sd_vv rfl rfl rfl (vv_assign rfl) ?_
      refine sd_done ?_
      refine sw_ret ?_
      have X3 : Gr w w1 := (Gr.kz (Gr.refl w) Kw1)
      have hr := Option.some.inj hm
      subst hr
      refine ⟨_, _, rfl, res_1 rfl (rv_tmp rfl), ?_⟩
      exact ⟨rfl, X3⟩

set_option maxHeartbeats 2000000 in
theorem ref03_Stride_w (p0 : Int)  (r : Int) (hm : ref03_Stride p0 = some r) (w : World)   :
    Calls Try.prog 154 [.int .i64 p0].toArray w fun e w' => ∃ v, e = .returned v ∧ (v = .int .i64 r ∧ Gr w w') := by
  unfold ref03_Stride at hm
  refine calls_of_sw (R := fun v w' => v = .int .i64 r ∧ Gr w w') 12 Try.func154 rfl rfl rfl ?_
  refine sw_seq ?_
  -- region 0 ref.go:72
  refine sw_region [(0, 0)] rfl rfl rfl ?_
  refine sd_vv rfl rfl rfl (vv_assign rfl) ?_
  refine sd_done ?_
  refine sw_seq ?_
  -- region 1 ref.go:73
  refine sw_region [(0, 0)] rfl rfl rfl ?_
  refine sd_vv rfl rfl rfl (vv_assign rfl) ?_
  refine sd_done ?_
  refine sw_seq ?_
  refine sw_block ?_
  refine sw_loopD (α := Nat × Int) [3, 4, 5, 6, 7, 8, 9, 10] (fun ⟨n1, a2⟩ => [(3, .int .i64 a2)]) (fun ⟨n1, a2⟩ wr => (fixN (ref03_Stride_L1 p0) n1 a2 = some r) ∧ Kz [] w wr) (fun ⟨n1, a2⟩ => n1) ⟨FUEL, 1⟩ ?_ ?_ ?_
  · repeat' first | exact trivial | refine ⟨rfl, ?_⟩
  · exact ⟨hm, Kz.refl _ _⟩
  · clear hm; rintro ⟨n1, a2⟩ w1 ⟨hm, Kw1⟩
    have z1 := Kw1.size
    have hb := fix_succ hm; clear hm; obtain ⟨n1, rfl, hm⟩ := hb
    generalize hrec1 : fixN (ref03_Stride_L1 p0) n1 = rec1 at hm
    unfold ref03_Stride_L1 at hm
    try dsimp only at hm
    refine sw_seq ?_
    refine sw_seq ?_
    -- region 2 ref.go:74
    refine sw_region [(0, 0), (1, 0), (2, 0), (3, 0), (4, 0)] rfl rfl rfl ?_
    refine sd_vv rfl rfl rfl (vv_move rfl) ?_
    refine sd_vv rfl rfl rfl (vv_move rfl) ?_
    refine sd_vv rfl rfl rfl (vv_mul (k := .i64) (a := a2) (b := a2) rfl rfl) ?_
    refine sd_vv rfl rfl rfl (vv_move rfl) ?_
    refine sd_vv rfl rfl rfl (vv_lss (a := w64 (a2 * a2)) (b := p0) rfl rfl) ?_
    refine sd_done ?_
    refine sw_cond rfl (fun c1 => ?_) (fun c1 => ?_)
    ·
      replace hm := ite_t (of_decide_eq_true c1) hm
      refine sw_skip ?_
      refine then_n ?_
      refine sw_block ?_
      -- region 3 ref.go:75
      refine sw_region [(0, 0), (1, 0), (2, 0)] rfl rfl rfl ?_
      refine sd_vv rfl rfl rfl (vv_move rfl) ?_
      refine sd_vv rfl rfl rfl (vv_add (k := .i64) (a := a2) (b := 1) rfl rfl) ?_
      refine sd_vv rfl rfl rfl (vv_assign rfl) ?_
      refine sd_nil ?_
      refine block_n ?_
      have K_2 : Kz [] w w1 := Kw1
      subst hrec1
      refine ⟨rfl, ⟨n1, w64 (a2 + 1)⟩, ?_, ⟨hm, K_2⟩, Nat.lt_succ_self _⟩
      repeat' first | exact trivial | refine ⟨rfl, ?_⟩
    ·
      replace hm := ite_f (of_decide_eq_false c1) hm
      refine sw_exit ?_
      refine then_x ?_
      refine then_x ?_
      refine block_x ?_
      refine then_n ?_
      refine sw_seq ?_
      -- region 4 ref.go:77
      refine sw_region [(0, 0), (1, 0)] rfl rfl rfl ?_
      refine sd_vv rfl rfl rfl (vv_move rfl) ?_
      refine sd_vv rfl rfl rfl (vv_assign rfl) ?_
      refine sd_done ?_
      refine sw_ret ?_
      have X3 : Gr w w1 := (Gr.kz (Gr.refl w) Kw1)
      have hr := Option.some.inj hm
      subst hr
      refine ⟨_, _, rfl, res_1 rfl (rv_tmp rfl), ?_⟩
      exact ⟨rfl, X3⟩

set_option maxHeartbeats 2000000 in
theorem ref03_Special_w (p0 : Int) (p1 : Int)  (r : Bool) (hm : ref03_Special p0 p1 = some r) (w : World)   :
    Calls Try.prog 120 [.int .i64 p0, .int .i64 p1].toArray w fun e w' => ∃ v, e = .returned v ∧ (v = .bool r ∧ Gr w w') := by
  unfold ref03_Special at hm
  refine calls_of_sw (R := fun v w' => v = .bool r ∧ Gr w w') 11 Try.func120 rfl rfl rfl ?_
  refine sw_seq ?_
  -- region 0 ref.go:81
  refine sw_region [(0, 0)] rfl rfl rfl ?_
  refine sd_vv rfl rfl rfl (vv_assign rfl) ?_
  refine sd_done ?_
  refine sw_seq ?_
  -- region 1 ref.go:81
  refine sw_region [(0, 0), (1, 0), (2, 0), (3, 0), (4, 0), (5, 0), (6, 0)] rfl rfl rfl ?_
  refine sd_vv rfl rfl rfl (vv_move rfl) ?_
  have hb := bnd hm; clear hm; obtain ⟨x1, hx1, hm⟩ := hb
  refine sd_ev rfl rfl rfl (ev_call en_153 rfl (ref03_Level_w p1 _ hx1 _)) ?_
  rintro _ w1 ⟨rfl, Gw1⟩
  have z1 := Gw1.size
  refine sd_vv rfl rfl rfl (vv_move rfl) ?_
  have hb := bnd hm; clear hm; obtain ⟨x2, hx2, hm⟩ := hb
  refine sd_ev rfl rfl rfl (ev_call en_154 rfl (ref03_Stride_w p0 _ hx2 _)) ?_
  rintro _ w2 ⟨rfl, Gw2⟩
  have z2 := Gw2.size
  have hb := bnd hm; clear hm; obtain ⟨x3, hx3, hm⟩ := hb
  refine sd_vv rfl rfl rfl (vv_remI (a := x1) (b := x2) rfl rfl hx3) ?_
  refine sd_vv rfl rfl rfl (vv_eql (a := x3) (b := 0) rfl rfl) ?_
  refine sd_vv rfl rfl rfl (vv_assign rfl) ?_
  refine sd_done ?_
  refine sw_ret ?_
  have X3 : Gr w w2 := (Gr.trans (Gr.trans (Gr.refl w) Gw1) Gw2)
  have hr := Option.some.inj hm
  subst hr
  refine ⟨_, _, rfl, res_1 rfl (rv_tmp rfl), ?_⟩
  exact ⟨rfl, X3⟩

set_option maxHeartbeats 2000000 in
theorem ref03_Path_w (p0 : Int) (p1 : Int)  (r : List Int) (hm : ref03_Path p0 p1 = some r) (w : World)   :
    Calls Try.prog 108 [.int .i64 p0, .int .i64 p1].toArray w fun e w' => ∃ v, e = .returned v ∧ (∃ (ur0_s : Value) (zr0_s : Nat) (gr0_s : Nat), v = ur0_s ∧ Own w' zr0_s gr0_s 3 1 ur0_s (r.map ic) ∧ Hdn (zr0_s = 0 ∨ w.heap.size ≤ gr0_s) ∧ Gr w w') := by
  unfold ref03_Path at hm
  refine calls_of_sw (R := fun v w' => ∃ (ur0_s : Value) (zr0_s : Nat) (gr0_s : Nat), v = ur0_s ∧ Own w' zr0_s gr0_s 3 1 ur0_s (r.map ic) ∧ Hdn (zr0_s = 0 ∨ w.heap.size ≤ gr0_s) ∧ Gr w w') 19 Try.func108 rfl rfl rfl ?_
  refine sw_seq ?_
  -- region 0 ref.go:84
  refine sw_region [(0, 0)] rfl rfl rfl ?_
  refine sd_vv rfl rfl rfl (vv_assign rfl) ?_
  refine sd_done ?_
  refine sw_seq ?_
  -- region 1 ref.go:85
  refine sw_region [(0, 0)] rfl rfl rfl ?_
  refine sd_vv rfl rfl rfl (vv_assign rfl) ?_
  refine sd_done ?_
  refine sw_seq ?_
  refine sw_block ?_
  refine sw_loopD (α := Nat × Int × List Int × Value × Nat × Nat) [1, 5, 6, 7, 8, 9, 10, 11, 12, 13, 14] (fun ⟨n1, a4, a5, vy6, zy6, gy6⟩ => [(1, .int .i64 a4), (5, vy6)]) (fun ⟨n1, a4, a5, vy6, zy6, gy6⟩ wr => (fixN (ref03_Path_L1 p0) n1 (a4, a5) = some r) ∧ Own wr zy6 gy6 3 1 vy6 (a5.map ic) ∧ Hdn (zy6 = 0 ∨ w.heap.size ≤ gy6) ∧ Kz [] w wr) (fun ⟨n1, a4, a5, vy6, zy6, gy6⟩ => n1) ⟨FUEL, p1, [], (.slice none 0 0), 0, 0⟩ ?_ ?_ ?_
  · repeat' first | exact trivial | refine ⟨rfl, ?_⟩
  · exact ⟨hm, (own_nil _ 0 3 1), ⟨(.inl rfl)⟩, Kz.refl _ _⟩
  · clear hm; rintro ⟨n1, a4, a5, vy6, zy6, gy6⟩ w1 ⟨hm, Fw1_0, Fw1_1, Kw1⟩
    have z1 := Kw1.size
    have lt2 := Fw1_0.lth
    have hb := fix_succ hm; clear hm; obtain ⟨n1, rfl, hm⟩ := hb
    generalize hrec1 : fixN (ref03_Path_L1 p0) n1 = rec1 at hm
    unfold ref03_Path_L1 at hm
    try dsimp only at hm
    refine sw_seq ?_
    refine sw_seq ?_
    -- region 2 ref.go:86
    refine sw_region [(0, 0), (1, 0), (2, 0)] rfl rfl rfl ?_
    refine sd_vv rfl rfl rfl (vv_move rfl) ?_
    refine sd_vv rfl rfl rfl (vv_move rfl) ?_
    refine sd_vv rfl rfl rfl (vv_neq (a := a4) (b := p0) rfl rfl) ?_
    refine sd_done ?_
    refine sw_cond rfl (fun c1 => ?_) (fun c1 => ?_)
    ·
      replace hm := ite_t (of_decide_eq_true c1) hm
      refine sw_skip ?_
      refine then_n ?_
      refine sw_block ?_
      refine sw_seq ?_
      -- region 3 ref.go:87
      refine sw_region [(0, 0), (1, 0), (2, 0), (3, 0), (4, 0)] rfl rfl rfl ?_
      refine sd_vv rfl rfl rfl (vv_move rfl) ?_
      refine sd_ev rfl rfl rfl (ev_litT [a4] ic bsl_61_1 rfl rfl (ws_of rfl) rfl rfl rfl) ?_
      rintro vw2 w2 ⟨gw2, hbw2, Ow2, Gw2⟩
      have z3 := Gw2.size
      have lt4 := Ow2.lth
      refine sd_vv rfl rfl rfl (vv_move rfl) ?_
      have B5 := (Own.gr Fw1_0 Gw2)
      have hb := bnd hm; clear hm; obtain ⟨l7, hl7, hm⟩ := hb
      refine sd_ev rfl rfl rfl (ev_appT (l := [a4]) (m := a5) (c := ic) apt_61 rfl rfl Ow2 (Own.rd B5) hl7 (by decide)) ?_
      rintro vw3 w3 ⟨zw3, gw3, Ow3, Aw3, qw3, rw3⟩
      have z6 := Aw3.size
      refine sd_vv rfl rfl rfl (vv_assign rfl) ?_
      refine sd_done ?_
      -- region 4 ref.go:88
      refine sw_region [(0, 0), (1, 0), (2, 0)] rfl rfl rfl ?_
      refine sd_vv rfl rfl rfl (vv_move rfl) ?_
      have hb := bnd hm; clear hm; obtain ⟨x8, hx8, hm⟩ := hb
      refine sd_vv rfl rfl rfl (vv_quoI (a := a4) (b := 2) rfl rfl hx8) ?_
      refine sd_vv rfl rfl rfl (vv_assign rfl) ?_
      refine sd_nil ?_
      refine block_n ?_
      have K_7 : Kz [] w w3 := (Kz.ka (Kz.gr Kw1 Gw2) Aw3 (tk1 ((.inr tk0) : 1 = 0 ∨ w.heap.size ≤ gw2)))
      subst hrec1
      refine ⟨rfl, ⟨n1, x8, l7, vw3, zw3, gw3⟩, ?_, ⟨hm, Ow3, ⟨(pv_app (A := (fun x => w.heap.size ≤ x)) rw3 (.inr tk0))⟩, K_7⟩, Nat.lt_succ_self _⟩
      repeat' first | exact trivial | refine ⟨rfl, ?_⟩
    ·
      replace hm := ite_f (of_decide_eq_false c1) hm
      refine sw_exit ?_
      refine then_x ?_
      refine then_x ?_
      refine block_x ?_
      refine then_n ?_
      refine sw_seq ?_
      -- region 5 ref.go:90
      refine sw_region [(0, 0), (1, 0), (2, 0), (3, 0), (4, 0)] rfl rfl rfl ?_
      refine sd_vv rfl rfl rfl (vv_move rfl) ?_
      refine sd_ev rfl rfl rfl (ev_litT [p0] ic bsl_61_1 rfl rfl (ws_of rfl) rfl rfl rfl) ?_
      rintro vw4 w4 ⟨gw4, hbw4, Ow4, Gw4⟩
      have z8 := Gw4.size
      have lt9 := Ow4.lth
      refine sd_vv rfl rfl rfl (vv_move rfl) ?_
      have B10 := (Own.gr Fw1_0 Gw4)
      have hb := bnd hm; clear hm; obtain ⟨l9, hl9, hm⟩ := hb
      refine sd_ev rfl rfl rfl (ev_appT (l := [p0]) (m := a5) (c := ic) apt_61 rfl rfl Ow4 (Own.rd B10) hl9 (by decide)) ?_
      rintro vw5 w5 ⟨zw5, gw5, Ow5, Aw5, qw5, rw5⟩
      have z11 := Aw5.size
      refine sd_vv rfl rfl rfl (vv_assign rfl) ?_
      refine sd_done ?_
      refine sw_ret ?_
      have X12 : Gr w w5 := (Gr.ka (Gr.trans (Gr.kz (Gr.refl w) Kw1) Gw4) Aw5 (tk1 ((.inr tk0) : 1 = 0 ∨ w.heap.size ≤ gw4)))
      have hr := Option.some.inj hm
      subst hr
      refine ⟨_, _, rfl, res_1 rfl (rv_tmp rfl), ?_⟩
      exact ⟨vw5, zw5, gw5, rfl, Ow5, ⟨(pv_app (A := (fun x => w.heap.size ≤ x)) rw5 (.inr tk0))⟩, X12⟩

set_option maxHeartbeats 2000000 in
theorem ref03_between_w (p0 : Int) (p1 : Int) (p2 : Int)  (r : Int) (hm : ref03_between p0 p1 p2 = some r) (w : World)   :
    Calls Try.prog 121 [.int .i64 p0, .int .i64 p1, .int .i64 p2].toArray w fun e w' => ∃ v, e = .returned v ∧ (v = .int .i64 r ∧ Gr w w') := by
  unfold ref03_between at hm
  refine calls_of_sw (R := fun v w' => v = .int .i64 r ∧ Gr w w') 29 Try.func121 rfl rfl rfl ?_
  refine sw_seq ?_
  -- region 0 ref.go:94
  refine sw_region [(0, 0)] rfl rfl rfl ?_
  refine sd_vv rfl rfl rfl (vv_assign rfl) ?_
  refine sd_done ?_
  refine sw_seq ?_
  -- region 1 ref.go:95
  refine sw_region [(0, 0), (1, 0), (2, 0), (3, 0)] rfl rfl rfl ?_
  refine sd_vv rfl rfl rfl (vv_move rfl) ?_
  refine sd_vv rfl rfl rfl (vv_move rfl) ?_
  have hb := bnd hm; clear hm; obtain ⟨x1, hx1, hm⟩ := hb
  refine sd_ev rfl rfl rfl (ev_call en_108 rfl (ref03_Path_w p1 p2 _ hx1 _)) ?_
  rintro u1_r0_s w1 ⟨_, z1_r0_s, g1_r0_s, rfl, O1_r0_s, f1_r0_s, Gw1⟩
  have z1 := Gw1.size
  have lt2 := O1_r0_s.lth
  refine sd_vv rfl rfl rfl (vv_assign rfl) ?_
  refine sd_done ?_
  refine sw_seq ?_
  refine sw_seq ?_
  -- region 2 ref.go:96
  refine sw_region [(0, 0)] rfl rfl rfl ?_
  refine sd_vv rfl rfl rfl (vv_assign rfl) ?_
  refine sd_done ?_
  refine sw_block ?_
  have X3 : Gr w w1 := (Gr.trans (Gr.refl w) Gw1)
  refine sw_loopD (α := Nat × Int) [6, 8, 12, 13, 14, 15, 16, 17, 18, 19, 20, 21, 22, 23, 24, 25, 26, 27, 28] (fun ⟨n1, a3⟩ => [(6, .int .i64 0), (8, .int .i64 a3)]) (fun ⟨n1, a3⟩ wr => (fixN (ref03_between_L1 p0 x1) n1 a3 = some r) ∧ Kz [] w1 wr) (fun ⟨n1, a3⟩ => n1) ⟨FUEL, 1⟩ ?_ ?_ ?_
  · repeat' first | exact trivial | refine ⟨rfl, ?_⟩
  · exact ⟨hm, Kz.refl _ _⟩
  · clear hm; rintro ⟨n1, a3⟩ w2 ⟨hm, Kw2⟩
    have z4 := Kw2.size
    have hb := fix_succ hm; clear hm; obtain ⟨n1, rfl, hm⟩ := hb
    generalize hrec1 : fixN (ref03_between_L1 p0 x1) n1 = rec1 at hm
    unfold ref03_between_L1 at hm
    try dsimp only at hm
    refine sw_seq ?_
    refine sw_seq ?_
    -- region 3 ref.go:96
    refine sw_region [(0, 0), (1, 0), (2, 0), (3, 0), (4, 0)] rfl rfl rfl ?_
    refine sd_vv rfl rfl rfl (vv_move rfl) ?_
    refine sd_vv rfl rfl rfl (vv_move rfl) ?_
    have B5 := (Own.kz O1_r0_s Kw2)
    refine sd_vv rfl rfl rfl (vv_lenT (l := x1) (c := ic) Try.underlying61 rfl (Own.rd B5)) ?_
    refine sd_vv rfl rfl rfl (vv_sub (k := .i64) (a := (x1.length : Int)) (b := 1) rfl rfl) ?_
    refine sd_vv rfl rfl rfl (vv_lss (a := a3) (b := w64 ((x1.length : Int) - 1)) rfl rfl) ?_
    refine sd_done ?_
    refine sw_cond rfl (fun c1 => ?_) (fun c1 => ?_)
    ·
      replace hm := ite_t (of_decide_eq_true c1) hm
      refine sw_skip ?_
      refine then_n ?_
      refine sw_seq ?_
      refine sw_block ?_
      refine sw_seq ?_
      -- region 5 ref.go:97
      refine sw_region [(0, 0), (1, 0), (2, 0), (3, 0), (4, 0), (5, 0)] rfl rfl rfl ?_
      refine sd_vv rfl rfl rfl (vv_move rfl) ?_
      refine sd_vv rfl rfl rfl (vv_move rfl) ?_
      refine sd_vv rfl rfl rfl (vv_move rfl) ?_
      have hb := bnd hm; clear hm; obtain ⟨y4, hy4, hm⟩ := hb
      refine sd_vv rfl rfl rfl (vv_ixT (i := a3) Try.underlying61 (one_3).siz rfl (Own.rd B5) rfl hy4) ?_
      refine sd_vv rfl rfl rfl (vv_el1T (q := 0) (u := .int .i64 y4) one_3 rfl (Own.rd B5) hy4 (by first | rfl | omega) rfl) ?_
      have hb := bnd hm; clear hm; obtain ⟨x5, hx5, hm⟩ := hb
      refine sd_ev rfl rfl rfl (ev_call en_120 rfl (ref03_Special_w p0 y4 _ hx5 _)) ?_
      rintro _ w3 ⟨rfl, Gw3⟩
      have z6 := Gw3.size
      refine sd_done ?_
      refine sw_cond rfl (fun c2 => ?_) (fun c2 => ?_)
      ·
        replace hm := cnd_t c2 hm
        refine sw_seq ?_
        -- region 6 ref.go:98
        refine sw_region [(0, 0), (1, 0), (2, 0), (3, 0), (4, 0)] rfl rfl rfl ?_
        refine sd_vv rfl rfl rfl (vv_move rfl) ?_
        refine sd_vv rfl rfl rfl (vv_move rfl) ?_
        have hb := bnd hm; clear hm; obtain ⟨y6, hy6, hm⟩ := hb
        have B7 := (Own.gr B5 Gw3)
        refine sd_vv rfl rfl rfl (vv_ixT (i := a3) Try.underlying61 (one_3).siz rfl (Own.rd B7) rfl hy6) ?_
        refine sd_vv rfl rfl rfl (vv_el1T (q := 0) (u := .int .i64 y6) one_3 rfl (Own.rd B7) hy6 (by first | rfl | omega) rfl) ?_
        refine sd_vv rfl rfl rfl (vv_assign rfl) ?_
        refine sd_done ?_
        refine sw_ret ?_
        refine block_r ?_
        refine then_r ?_
        refine then_r ?_
        refine block_r ?_
        refine then_r ?_
        have X8 : Gr w w3 := (Gr.trans (Gr.kz X3 Kw2) Gw3)
        have hr := Option.some.inj hm
        subst hr
        refine ⟨_, _, rfl, res_1 rfl (rv_tmp rfl), ?_⟩
        exact ⟨rfl, X8⟩
      ·
        replace hm := cnd_f c2 hm
        refine sw_skip ?_
        refine block_n ?_
        refine then_n ?_
        -- region 4 ref.go:96
        refine sw_region [(0, 0), (1, 0), (2, 0)] rfl rfl rfl ?_
        refine sd_vv rfl rfl rfl (vv_move rfl) ?_
        refine sd_vv rfl rfl rfl (vv_add (k := .i64) (a := a3) (b := 1) rfl rfl) ?_
        refine sd_vv rfl rfl rfl (vv_assign rfl) ?_
        refine sd_nil ?_
        have K_9 : Kz [] w1 w3 := (Kz.gr Kw2 Gw3)
        subst hrec1
        refine ⟨rfl, ⟨n1, w64 (a3 + 1)⟩, ?_, ⟨hm, K_9⟩, Nat.lt_succ_self _⟩
        repeat' first | exact trivial | refine ⟨rfl, ?_⟩
    ·
      replace hm := ite_f (of_decide_eq_false c1) hm
      refine sw_exit ?_
      refine then_x ?_
      refine then_x ?_
      refine block_x ?_
      refine then_n ?_
      refine sw_seq ?_
      -- region 7 ref.go:101
      refine sw_region [(0, 0)] rfl rfl rfl ?_
      refine sd_vv rfl rfl rfl (vv_assign rfl) ?_
      refine sd_done ?_
      refine sw_ret ?_
      have X10 : Gr w w2 := (Gr.kz X3 Kw2)
      have hr := Option.some.inj hm
      subst hr
      refine ⟨_, _, rfl, res_1 rfl (rv_tmp rfl), ?_⟩
      exact ⟨rfl, X10⟩

set_option maxHeartbeats 2000000 in
theorem ref03_IsSubset_w (p0 : TScheme) (p1 : TSubset)  (r : Bool) (hm : ref03_IsSubset p0 p1 = some r) (w : World)   :
    Calls Try.prog 62 [.agg (TScheme.cs p0).toArray, .agg (TSubset.cs p1).toArray].toArray w fun e w' => ∃ v, e = .returned v ∧ (v = .bool r ∧ Gr w w') := by
  unfold ref03_IsSubset at hm
  refine calls_of_sw (R := fun v w' => v = .bool r ∧ Gr w w') 64 Try.func62 rfl rfl rfl ?_
  refine sw_seq ?_
  -- region 0 ref.go:105
  refine sw_region [(0, 0), (1, 0), (2, 0)] rfl rfl rfl ?_
  refine sd_ev rfl rfl rfl (ev_box (cs := TScheme.cs p0) rfl rfl) ?_
  rintro _ w1 ⟨b1, rfl, hbw1, Bw1, Gw1⟩
  have z1 := Gw1.size
  have lt2 := Bw1.lt
  refine sd_ev rfl rfl rfl (ev_box (cs := TSubset.cs p1) rfl rfl) ?_
  rintro _ w2 ⟨b2, rfl, hbw2, Bw2, Gw2⟩
  have z3 := Gw2.size
  have lt4 := Bw2.lt
  refine sd_vv rfl rfl rfl (vv_assign rfl) ?_
  refine sd_done ?_
  refine sw_seq ?_
  refine sw_seq ?_
  -- region 1 ref.go:106
  refine sw_region [(0, 0), (1, 0), (2, 0), (3, 0), (4, 0), (5, 0)] rfl rfl rfl ?_
  refine sd_vv rfl rfl rfl (vv_fieldAddr fa_45_1 rfl) ?_
  have B5 := (Bx.gr Bw1 Gw2)
  refine sd_vv rfl rfl rfl (vv_load1 (v := .int .i64 p0.Depth) one_3 rfl B5 rfl) ?_
  refine sd_vv rfl rfl rfl (vv_fieldAddr fa_47_0 rfl) ?_
  refine sd_vv rfl rfl rfl (vv_load1 (v := .int .i64 p1.Node) one_3 rfl Bw2 rfl) ?_
  have hb := bnd hm; clear hm; obtain ⟨x1, hx1, hm⟩ := hb
  refine sd_ev rfl rfl rfl (ev_call en_119 rfl (ref03_Node_w p0.Depth p1.Node _ hx1 _)) ?_
  rintro _ w3 ⟨rfl, Gw3⟩
  have z6 := Gw3.size
  refine sd_vv rfl rfl rfl (vv_not rfl) ?_
  refine sd_done ?_
  refine sw_cond rfl (fun c1 => ?_) (fun c1 => ?_)
  ·
    replace hm := cnd_t c1 hm
    refine sw_seq ?_
    -- region 2 ref.go:107
    refine sw_region [(0, 0)] rfl rfl rfl ?_
    refine sd_vv rfl rfl rfl (vv_assign rfl) ?_
    refine sd_done ?_
    refine sw_ret ?_
    refine then_r ?_
    have X7 : Gr w w3 := (Gr.trans (Gr.trans (Gr.trans (Gr.refl w) Gw1) Gw2) Gw3)
    have hr := Option.some.inj hm
    subst hr
    refine ⟨_, _, rfl, res_1 rfl (rv_tmp rfl), ?_⟩
    exact ⟨rfl, X7⟩
  ·
    replace hm := cnd_f c1 hm
    refine sw_skip ?_
    refine then_n ?_
    refine sw_seq ?_
    refine sw_seq ?_
    -- region 3 ref.go:109
    refine sw_region [(0, 0), (1, 0), (2, 0)] rfl rfl rfl ?_
    refine sd_vv rfl rfl rfl (vv_fieldAddr fa_45_0 rfl) ?_
    have B8 := (Bx.gr B5 Gw3)
    refine sd_vv rfl rfl rfl (vv_load1 (v := bv p0.Kind) one_5 rfl B8 rfl) ?_
    refine sd_vv rfl rfl rfl (vv_eqlB (p := p0.Kind) (q := 1#8) rfl rfl) ?_
    refine sd_done ?_
    refine sw_cond rfl (fun c2 => ?_) (fun c2 => ?_)
    ·
      replace hm := ite_t (of_decide_eq_true c2) hm
      refine sw_seq ?_
      -- region 4 ref.go:110
      refine sw_region [(0, 0), (1, 0), (2, 0), (3, 0)] rfl rfl rfl ?_
      refine sd_vv rfl rfl rfl (vv_fieldAddr fa_47_1 rfl) ?_
      have B9 := (Bx.gr Bw2 Gw3)
      refine sd_vv rfl rfl rfl (vv_load1 (v := .int .i64 p1.Minus) one_3 rfl B9 rfl) ?_
      refine sd_vv rfl rfl rfl (vv_eql (a := p1.Minus) (b := 0) rfl rfl) ?_
      refine sd_vv rfl rfl rfl (vv_assign rfl) ?_
      refine sd_done ?_
      refine sw_ret ?_
      refine then_r ?_
      have X10 : Gr w w3 := (Gr.trans (Gr.trans (Gr.trans (Gr.refl w) Gw1) Gw2) Gw3)
      have hr := Option.some.inj hm
      subst hr
      refine ⟨_, _, rfl, res_1 rfl (rv_tmp rfl), ?_⟩
      exact ⟨rfl, X10⟩
    ·
      replace hm := ite_f (of_decide_eq_false c2) hm
      refine sw_skip ?_
      refine then_n ?_
      refine sw_seq ?_
      refine sw_seq ?_
      -- region 5 ref.go:112
      refine sw_region [(0, 0), (1, 0), (2, 0)] rfl rfl rfl ?_
      refine sd_vv rfl rfl rfl (vv_fieldAddr fa_47_1 rfl) ?_
      have B11 := (Bx.gr Bw2 Gw3)
      refine sd_vv rfl rfl rfl (vv_load1 (v := .int .i64 p1.Minus) one_3 rfl B11 rfl) ?_
      refine sd_vv rfl rfl rfl (vv_eql (a := p1.Minus) (b := 0) rfl rfl) ?_
      refine sd_done ?_
      refine sw_cond rfl (fun c3 => ?_) (fun c3 => ?_)
      ·
        replace hm := ite_t (of_decide_eq_true c3) hm
        refine sw_seq ?_
        -- region 6 ref.go:113
        refine sw_region [(0, 0), (1, 0), (2, 0), (3, 0)] rfl rfl rfl ?_
        refine sd_vv rfl rfl rfl (vv_fieldAddr fa_47_0 rfl) ?_
        refine sd_vv rfl rfl rfl (vv_load1 (v := .int .i64 p1.Node) one_3 rfl B11 rfl) ?_
        refine sd_vv rfl rfl rfl (vv_eql (a := p1.Node) (b := 1) rfl rfl) ?_
        refine sd_vv rfl rfl rfl (vv_assign rfl) ?_
        refine sd_done ?_
        refine sw_ret ?_
        refine then_r ?_
        have X12 : Gr w w3 := (Gr.trans (Gr.trans (Gr.trans (Gr.refl w) Gw1) Gw2) Gw3)
        have hr := Option.some.inj hm
        subst hr
        refine ⟨_, _, rfl, res_1 rfl (rv_tmp rfl), ?_⟩
        exact ⟨rfl, X12⟩
      ·
        replace hm := ite_f (of_decide_eq_false c3) hm
        refine sw_skip ?_
        refine then_n ?_
        refine sw_seq ?_
        have X13 : Gr w w3 := (Gr.trans (Gr.trans (Gr.trans (Gr.refl w) Gw1) Gw2) Gw3)
        refine sw_joinD (β := Bool) [23, 24, 25, 26, 27, 28, 29, 30, 31, 32, 33, 34, 35, 36, 37, 38, 39, 40, 41, 42, 43] (fun a2 => [(43, .bool a2)]) (fun a2 wr => (ref03_IsSubset_J1 p0 p1 a2 = some r) ∧ Kz [] w3 wr) ?_ ?_
        · clear hm; rintro a2 w4 ⟨hm, Kw4⟩
          have z14 := Kw4.size
          unfold ref03_IsSubset_J1 at hm
          refine sw_cond rfl (fun c4 => ?_) (fun c4 => ?_)
          ·
            replace hm := cnd_t c4 hm
            refine sw_seq ?_
            -- region 8 ref.go:116
            refine sw_region [(0, 0)] rfl rfl rfl ?_
            refine sd_vv rfl rfl rfl (vv_assign rfl) ?_
            refine sd_done ?_
            refine sw_ret ?_
            refine then_r ?_
            have X15 : Gr w w4 := (Gr.kz X13 Kw4)
            have hr := Option.some.inj hm
            subst hr
            refine ⟨_, _, rfl, res_1 rfl (rv_tmp rfl), ?_⟩
            exact ⟨rfl, X15⟩
          ·
            replace hm := cnd_f c4 hm
            refine sw_skip ?_
            refine then_n ?_
            refine sw_seq ?_
            -- region 9 ref.go:118
            refine sw_region [(0, 0), (1, 0), (2, 0), (3, 0), (4, 0), (5, 0), (6, 0), (7, 0), (8, 0), (9, 0), (10, 0), (11, 0), (12, 0), (13, 0), (14, 0), (15, 0), (16, 0), (17, 0), (18, 0), (19, 0), (20, 0)] rfl rfl rfl ?_
            refine sd_vv rfl rfl rfl (vv_fieldAddr fa_45_0 rfl) ?_
            have B16 := (Bx.kz B8 Kw4)
            refine sd_vv rfl rfl rfl (vv_load1 (v := bv p0.Kind) one_5 rfl B16 rfl) ?_
            refine sd_vv rfl rfl rfl (vv_eqlB (p := p0.Kind) (q := 2#8) rfl rfl) ?_
            refine sd_split rfl rfl rfl (vv_move rfl) (fun c5 => ?_) (fun c5 => ?_)
            ·
              replace hm := ite_t (of_decide_eq_true c5) hm
              refine sd_skip rfl rfl rfl ?_
              refine sd_skip rfl rfl rfl ?_
              refine sd_skip rfl rfl rfl ?_
              refine sd_skip rfl rfl rfl ?_
              refine sd_skip rfl rfl rfl ?_
              refine sd_vv rfl rfl rfl (vv_pickT rfl rfl) ?_
              refine sd_vv rfl rfl rfl (vv_move rfl) ?_
              refine sd_skip rfl rfl rfl ?_
              refine sd_skip rfl rfl rfl ?_
              refine sd_skip rfl rfl rfl ?_
              refine sd_skip rfl rfl rfl ?_
              refine sd_skip rfl rfl rfl ?_
              refine sd_skip rfl rfl rfl ?_
              refine sd_skip rfl rfl rfl ?_
              refine sd_skip rfl rfl rfl ?_
              refine sd_vv rfl rfl rfl (vv_pickT rfl rfl) ?_
              refine sd_vv rfl rfl rfl (vv_assign rfl) ?_
              refine sd_done ?_
              refine sw_ret ?_
              have X17 : Gr w w4 := (Gr.kz X13 Kw4)
              have hr := Option.some.inj hm
              subst hr
              refine ⟨_, _, rfl, res_1 rfl (rv_tmp rfl), ?_⟩
              exact ⟨rfl, X17⟩
            ·
              replace hm := ite_f (of_decide_eq_false c5) hm
              refine sd_vv rfl rfl rfl (vv_fieldAddr fa_45_1 rfl) ?_
              refine sd_vv rfl rfl rfl (vv_load1 (v := .int .i64 p0.Depth) one_3 rfl B16 rfl) ?_
              refine sd_vv rfl rfl rfl (vv_fieldAddr fa_47_0 rfl) ?_
              have B18 := (Bx.kz B11 Kw4)
              refine sd_vv rfl rfl rfl (vv_load1 (v := .int .i64 p1.Node) one_3 rfl B18 rfl) ?_
              have hb := bnd hm; clear hm; obtain ⟨x3, hx3, hm⟩ := hb
              refine sd_ev rfl rfl rfl (ev_call en_120 rfl (ref03_Special_w p0.Depth p1.Node _ hx3 _)) ?_
              rintro _ w5 ⟨rfl, Gw5⟩
              have z19 := Gw5.size
              refine sd_vv rfl rfl rfl (vv_pickF rfl rfl) ?_
              refine sd_split rfl rfl rfl (vv_move rfl) (fun c6 => ?_) (fun c6 => ?_)
              ·
                replace hm := cnd_t c6 hm
                refine sd_skip rfl rfl rfl ?_
                refine sd_skip rfl rfl rfl ?_
                refine sd_skip rfl rfl rfl ?_
                refine sd_skip rfl rfl rfl ?_
                refine sd_skip rfl rfl rfl ?_
                refine sd_skip rfl rfl rfl ?_
                refine sd_skip rfl rfl rfl ?_
                refine sd_skip rfl rfl rfl ?_
                refine sd_vv rfl rfl rfl (vv_pickT rfl rfl) ?_
                refine sd_vv rfl rfl rfl (vv_assign rfl) ?_
                refine sd_done ?_
                refine sw_ret ?_
                have X20 : Gr w w5 := (Gr.trans (Gr.kz X13 Kw4) Gw5)
                have hr := Option.some.inj hm
                subst hr
                refine ⟨_, _, rfl, res_1 rfl (rv_tmp rfl), ?_⟩
                exact ⟨rfl, X20⟩
              ·
                replace hm := cnd_f c6 hm
                refine sd_vv rfl rfl rfl (vv_fieldAddr fa_45_1 rfl) ?_
                have B21 := (Bx.gr B16 Gw5)
                refine sd_vv rfl rfl rfl (vv_load1 (v := .int .i64 p0.Depth) one_3 rfl B21 rfl) ?_
                refine sd_vv rfl rfl rfl (vv_fieldAddr fa_47_0 rfl) ?_
                have B22 := (Bx.gr B18 Gw5)
                refine sd_vv rfl rfl rfl (vv_load1 (v := .int .i64 p1.Node) one_3 rfl B22 rfl) ?_
                refine sd_vv rfl rfl rfl (vv_fieldAddr fa_47_1 rfl) ?_
                refine sd_vv rfl rfl rfl (vv_load1 (v := .int .i64 p1.Minus) one_3 rfl B22 rfl) ?_
                have hb := bnd hm; clear hm; obtain ⟨x4, hx4, hm⟩ := hb
                refine sd_ev rfl rfl rfl (ev_call en_121 rfl (ref03_between_w p0.Depth p1.Node p1.Minus _ hx4 _)) ?_
                rintro _ w6 ⟨rfl, Gw6⟩
                have z23 := Gw6.size
                refine sd_vv rfl rfl rfl (vv_eql (a := x4) (b := 0) rfl rfl) ?_
                refine sd_vv rfl rfl rfl (vv_pickF rfl rfl) ?_
                refine sd_vv rfl rfl rfl (vv_assign rfl) ?_
                refine sd_done ?_
                refine sw_ret ?_
                have X24 : Gr w w6 := (Gr.trans (Gr.trans (Gr.kz X13 Kw4) Gw5) Gw6)
                have hr := Option.some.inj hm
                subst hr
                refine ⟨_, _, rfl, res_1 rfl (rv_tmp rfl), ?_⟩
                exact ⟨rfl, X24⟩
        ·
          -- region 7 ref.go:115
          refine sw_region [(0, 0), (1, 0), (2, 0), (3, 0), (4, 0), (5, 0), (6, 0), (7, 0), (8, 0), (9, 0), (10, 0), (11, 0), (12, 0), (13, 0), (14, 0), (15, 0), (16, 0), (17, 0), (18, 0), (19, 0), (20, 0)] rfl rfl rfl ?_
          refine sd_vv rfl rfl rfl (vv_fieldAddr fa_45_1 rfl) ?_
          refine sd_vv rfl rfl rfl (vv_load1 (v := .int .i64 p0.Depth) one_3 rfl B8 rfl) ?_
          refine sd_vv rfl rfl rfl (vv_fieldAddr fa_47_1 rfl) ?_
          refine sd_vv rfl rfl rfl (vv_load1 (v := .int .i64 p1.Minus) one_3 rfl B11 rfl) ?_
          have hb := bnd hm; clear hm; obtain ⟨x5, hx5, hm⟩ := hb
          refine sd_ev rfl rfl rfl (ev_call en_119 rfl (ref03_Node_w p0.Depth p1.Minus _ hx5 _)) ?_
          rintro _ w7 ⟨rfl, Gw7⟩
          have z25 := Gw7.size
          refine sd_vv rfl rfl rfl (vv_not rfl) ?_
          refine sd_split rfl rfl rfl (vv_move rfl) (fun c7 => ?_) (fun c7 => ?_)
          ·
            replace hm := cnd_t c7 hm
            refine sd_skip rfl rfl rfl ?_
            refine sd_skip rfl rfl rfl ?_
            refine sd_skip rfl rfl rfl ?_
            refine sd_skip rfl rfl rfl ?_
            refine sd_skip rfl rfl rfl ?_
            refine sd_vv rfl rfl rfl (vv_pickT rfl rfl) ?_
            refine sd_vv rfl rfl rfl (vv_move rfl) ?_
            refine sd_skip rfl rfl rfl ?_
            refine sd_skip rfl rfl rfl ?_
            refine sd_skip rfl rfl rfl ?_
            refine sd_skip rfl rfl rfl ?_
            refine sd_skip rfl rfl rfl ?_
            refine sd_skip rfl rfl rfl ?_
            refine sd_vv rfl rfl rfl (vv_pickT rfl rfl) ?_
            refine sd_nil ?_
            have K_26 : Kz [] w3 w7 := (Kz.gr (Kz.refl _ _) Gw7)
            refine ⟨rfl, true, ?_, hm, K_26⟩
            repeat' first | exact trivial | refine ⟨rfl, ?_⟩
          ·
            replace hm := cnd_f c7 hm
            refine sd_vv rfl rfl rfl (vv_fieldAddr fa_47_1 rfl) ?_
            have B27 := (Bx.gr B11 Gw7)
            refine sd_vv rfl rfl rfl (vv_load1 (v := .int .i64 p1.Minus) one_3 rfl B27 rfl) ?_
            refine sd_vv rfl rfl rfl (vv_fieldAddr fa_47_0 rfl) ?_
            refine sd_vv rfl rfl rfl (vv_load1 (v := .int .i64 p1.Node) one_3 rfl B27 rfl) ?_
            refine sd_vv rfl rfl rfl (vv_eql (a := p1.Minus) (b := p1.Node) rfl rfl) ?_
            refine sd_vv rfl rfl rfl (vv_pickF rfl rfl) ?_
            refine sd_split rfl rfl rfl (vv_move rfl) (fun c8 => ?_) (fun c8 => ?_)
            ·
              replace hm := ite_t (of_decide_eq_true c8) hm
              refine sd_skip rfl rfl rfl ?_
              refine sd_skip rfl rfl rfl ?_
              refine sd_skip rfl rfl rfl ?_
              refine sd_skip rfl rfl rfl ?_
              refine sd_skip rfl rfl rfl ?_
              refine sd_skip rfl rfl rfl ?_
              refine sd_vv rfl rfl rfl (vv_pickT rfl rfl) ?_
              refine sd_nil ?_
              have K_28 : Kz [] w3 w7 := (Kz.gr (Kz.refl _ _) Gw7)
              refine ⟨rfl, true, ?_, hm, K_28⟩
              repeat' first | exact trivial | refine ⟨rfl, ?_⟩
            ·
              replace hm := ite_f (of_decide_eq_false c8) hm
              refine sd_vv rfl rfl rfl (vv_fieldAddr fa_47_1 rfl) ?_
              refine sd_vv rfl rfl rfl (vv_load1 (v := .int .i64 p1.Minus) one_3 rfl B27 rfl) ?_
              refine sd_vv rfl rfl rfl (vv_fieldAddr fa_47_0 rfl) ?_
              refine sd_vv rfl rfl rfl (vv_load1 (v := .int .i64 p1.Node) one_3 rfl B27 rfl) ?_
              have hb := bnd hm; clear hm; obtain ⟨x6, hx6, hm⟩ := hb
              refine sd_ev rfl rfl rfl (ev_call en_60 rfl (ref03_Below_w p1.Minus p1.Node _ hx6 _)) ?_
              rintro _ w8 ⟨rfl, Gw8⟩
              have z29 := Gw8.size
              refine sd_vv rfl rfl rfl (vv_not rfl) ?_
              refine sd_vv rfl rfl rfl (vv_pickF rfl rfl) ?_
              refine sd_nil ?_
              have K_30 : Kz [] w3 w8 := (Kz.gr (Kz.gr (Kz.refl _ _) Gw7) Gw8)
              refine ⟨rfl, (!x6), ?_, hm, K_30⟩
              repeat' first | exact trivial | refine ⟨rfl, ?_⟩
end Go.Proofs.Ytecempahccgijaa.Mx
