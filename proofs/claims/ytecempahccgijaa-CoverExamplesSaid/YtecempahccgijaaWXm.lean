/- Walks that follow mirrors: WXm. Printed by mx.py. -/
import Derived.Test.YtecempahccgijaaAl
import Derived.Test.YtecempahccgijaaWXmM
set_option linter.unusedVariables false
set_option linter.unusedSimpArgs false
set_option maxRecDepth 100000
namespace Go.Proofs.Ytecempahccgijaa.Mx
open Go Go.RowKit Go.Sx
theorem bsl_48_2 : BSl Try.prog 48 2 47 2 [.int .i64 0, .int .i64 0, .int .i64 0, .int .i64 0] := bsl_mk Try.underlying48 (agg_47).siz zv_47 rfl rfl (by kernel_rfl)
theorem en_76 : En Try.prog 76 := fun _ _ => by kernel_rfl
theorem zv_31 : ZV Try.prog 31 (.int .i64 0) := fun _ => by kernel_rfl
theorem one_31 : One Try.prog 31 := fun _ => ⟨by kernel_rfl, by kernel_rfl⟩

set_option maxHeartbeats 2000000 in
theorem cover_Storage_w (p0 : TScheme)  (r : Int × Int) (hm : cover_Storage p0 = some r) (w : World)   :
    Calls Try.prog 31 [.agg (TScheme.cs p0).toArray].toArray w fun e w' => ∃ v, e = .returned v ∧ (v = .tuple [.int .i64 r.1, .int .i64 r.2].toArray ∧ Gr w w') := by
  unfold cover_Storage at hm
  refine calls_of_sw (R := fun v w' => v = .tuple [.int .i64 r.1, .int .i64 r.2].toArray ∧ Gr w w') 22 Try.func31 rfl rfl rfl ?_
  refine sw_seq ?_
  -- region 0 cover.go:134
  refine sw_region [(0, 0), (1, 0), (2, 0)] rfl rfl rfl ?_
  refine sd_ev rfl rfl rfl (ev_box (cs := TScheme.cs p0) rfl rfl) ?_
  rintro _ w1 ⟨b1, rfl, hbw1, Bw1, Gw1⟩
  have z1 := Gw1.size
  have lt2 := Bw1.lt
  refine sd_vv rfl rfl rfl (vv_assign rfl) ?_
  refine sd_vv rfl rfl rfl (vv_assign rfl) ?_
  refine sd_done ?_
  refine sw_seq ?_
  -- region 1 cover.go:135
  refine sw_region [(0, 0), (1, 0), (2, 0), (3, 0), (4, 0), (5, 0), (6, 0), (7, 0)] rfl rfl rfl ?_
  refine sd_vv rfl rfl rfl (vv_loadW agg_45 rfl Bw1 rfl) ?_
  have hb := bnd hm; clear hm; obtain ⟨x1, hx1, hm⟩ := hb
  refine sd_ev rfl rfl rfl (ev_call en_74 rfl (cover_enter_w p0 ([] : List TSubset) _ _ _ _ _ hx1 _ (Own.rd (own_nil _ 0 47 2)))) ?_
  rintro _ w2 ⟨rfl, Gw2⟩
  have z3 := Gw2.size
  refine sd_vv rfl rfl rfl (vv_move rfl) ?_
  refine sd_vv rfl rfl rfl (vv_extract rfl rfl) ?_
  refine sd_vv rfl rfl rfl (vv_extract rfl rfl) ?_
  refine sd_ev rfl rfl rfl (ev_alloc (cs := Tcover_tree.cs (Tcover_tree.mk 0#8 0 0)) zv_134 rfl) ?_
  rintro _ w3 ⟨b3, rfl, hbw3, Bw3, Gw3⟩
  have z4 := Gw3.size
  have lt5 := Bw3.lt
  refine sd_ev rfl rfl rfl (ev_stM (cs' := Tcover_tree.cs x1.1) (vs := Tcover_tree.cs x1.1) (agg_134).siz rfl rfl rfl rfl rfl Bw3 rfl rfl) ?_
  rintro _ w4 ⟨Bw4, Mw4⟩
  have z6 := Mw4.size
  refine sd_vv rfl rfl rfl (vv_assign rfl) ?_
  refine sd_done ?_
  refine sw_seq ?_
  refine sw_seq ?_
  -- region 2 cover.go:136
  refine sw_region [(0, 0), (1, 0)] rfl rfl rfl ?_
  refine sd_vv rfl rfl rfl (vv_move rfl) ?_
  refine sd_vv rfl rfl rfl (vv_neq (a := x1.2) (b := 0) rfl rfl) ?_
  refine sd_done ?_
  refine sw_cond rfl (fun c1 => ?_) (fun c1 => ?_)
  ·
    replace hm := ite_t (of_decide_eq_true c1) hm
    refine sw_seq ?_
    -- region 3 cover.go:137
    refine sw_region [(0, 0), (1, 0), (2, 0)] rfl rfl rfl ?_
    refine sd_vv rfl rfl rfl (vv_move rfl) ?_
    refine sd_vv rfl rfl rfl (vv_assign rfl) ?_
    refine sd_vv rfl rfl rfl (vv_assign rfl) ?_
    refine sd_done ?_
    refine sw_ret ?_
    refine then_r ?_
    have X7 : Gr w w4 := (Gr.md (Gr.trans (Gr.trans (Gr.trans (Gr.refl w) Gw1) Gw2) Gw3) Mw4)
    have hr := Option.some.inj hm
    subst hr
    refine ⟨_, _, rfl, res_2 rfl (rv_tmp rfl) (rv_tmp rfl), ?_⟩
    exact ⟨rfl, X7⟩
  ·
    replace hm := ite_f (of_decide_eq_false c1) hm
    refine sw_skip ?_
    refine then_n ?_
    refine sw_seq ?_
    -- region 4 cover.go:139
    refine sw_region [(0, 0), (1, 0)] rfl rfl rfl ?_
    refine sd_ev rfl rfl rfl (ev_alloc (cs := [.int .i64 0]) zv_3 rfl) ?_
    rintro _ w5 ⟨b5, rfl, hbw5, Bw5, Gw5⟩
    have z8 := Gw5.size
    have lt9 := Bw5.lt
    refine sd_ev rfl rfl rfl (ev_st1 (cs' := [.int .i64 0]) (one_3).siz rfl rfl rfl Bw5 rfl rfl) ?_
    rintro _ w6 ⟨Bw6, Mw6⟩
    have z10 := Mw6.size
    refine sd_done ?_
    refine sw_seq ?_
    refine sw_seq ?_
    -- region 5 cover.go:140
    refine sw_region [(0, 0), (1, 0)] rfl rfl rfl ?_
    have B11 := (Bx.md (Bx.gr Bw4 Gw5) Mw6)
    refine sd_vv rfl rfl rfl (vv_loadW agg_134 rfl B11 rfl) ?_
    have hb := bnd hm; clear hm; obtain ⟨x2, hx2, hm⟩ := hb
    refine sd_ev rfl rfl rfl (ev_call en_82 rfl (cover_tree_labels_w x1.1 0 _ hx2 _)) ?_
    rintro _ w7 ⟨k7_c0_0, k7_c0_1, rfl, O7_c0_0, f7_c0_0, O7_c0_1, f7_c0_1, Gw7⟩
    have z12 := Gw7.size
    have lt13 := O7_c0_0.lt
    have lt14 := O7_c0_1.lt
    refine sd_done ?_
    refine sw_block ?_
    have hb := bnd hm; clear hm; obtain ⟨l3, hl3, hm⟩ := hb
    have X15 : Gr w w7 := (Gr.trans (Gr.md (Gr.trans (Gr.md (Gr.trans (Gr.trans (Gr.trans (Gr.refl w) Gw1) Gw2) Gw3) Mw4) Gw5) Mw6) Gw7)
    have B16 := (Bx.gr (Bx.md (Bx.gr (Bx.md (Bx.gr (Bx.gr Bw1 Gw2) Gw3) Mw4) Gw5) Mw6) Gw7)
    have B17 := (Bx.gr B11 Gw7)
    have B18 := (Bx.gr Bw6 Gw7)
    refine sw_rangeFunc (gf := 129) rfl en_129 (cover_tree_labels_1_it x2.1 x2.2 _ _ _ hl3 _ O7_c0_0 O7_c0_1) (by intro x hx; obtain ⟨a, _, rfl⟩ := List.mem_map.1 hx; rfl) rfl _ (fun _ _ _ _ => False) ([b5]) (stb_mk (α := Int) (fun a5 rk => itL cover_Storage_R1 cover_Storage_D1 (List.drop rk l3) a5 = some r) (fun a5 => ([b5])) (fun a5 W => Bx W b5 3 ([.int .i64 a5]) ∧ True) (by rintro a5 W ⟨F0, _⟩ b hb; have q0 := F0.lt; replace hb : b ∈ ([b5]) := hb; simp only [List.mem_cons, List.mem_append, mem_zf, List.not_mem_nil, or_false, false_or, not_or, ne_eq, List.nil_append, List.cons_append, true_and, and_true, false_and, and_false, not_true_eq_false, not_false_eq_true, or_true, true_or] at hb; omega) (by rintro a5 W W' ⟨F0, _⟩ E hs; replace hs : ∀ b ∈ ([b5]), W'.heap[b]? = W.heap[b]? := hs; exact ⟨(hs _ (by simp)).trans F0, trivial⟩)) (fun _ => stb_false) (by intro b hb; simp only [List.mem_cons, List.mem_append, mem_zf, List.not_mem_nil, or_false, false_or, not_or, ne_eq, List.nil_append, List.cons_append, true_and, and_true, false_and, and_false, not_true_eq_false, not_false_eq_true, or_true, true_or] at hb ⊢; omega) ⟨0, hm, rfl, B18, trivial⟩ ?_ ?_ ?_
    · rintro l rk x fp w8 hl hx _ Kw8 hF hln hlt
      clear hm
      obtain ⟨⟨e6, e7⟩, hxe, rfl⟩ := map_some hx
      have Zw8 : Kz [(1, b5)] w7 w8 := kz_of_kp Kw8 (by intro k hk; simp only [Nin, and_true, List.mem_cons, List.mem_append, mem_zf, List.not_mem_nil, or_false, false_or, not_or, ne_eq, List.nil_append, List.cons_append, true_and, and_true, false_and, and_false, not_true_eq_false, not_false_eq_true, or_true, true_or] at hk ⊢; omega)
      have z19 := Kw8.size
      refine sw_skip ?_
      refine ⟨rfl, (Gr.refl _), ?_⟩
      rintro w9 Mw9 ⟨a5, hm, rfl, Fw9_0, -⟩
      have z20 := Mw9.size
      have lt21 := Fw9_0.lt
      replace hm := itL_at hm hxe
      generalize hnx1 : itL cover_Storage_R1 cover_Storage_D1 (List.drop (rk + 1) l3) = nx1 at hm
      unfold cover_Storage_R1 at hm
      try dsimp only at hm
      refine sw_block ?_
      -- region 6 cover.go:141
      refine sw_region [(0, 0), (1, 0), (2, 0)] rfl rfl rfl ?_
      refine sd_vv rfl rfl rfl (vv_load1 (v := .int .i64 a5) one_3 rfl Fw9_0 rfl) ?_
      refine sd_vv rfl rfl rfl (vv_add (k := .i64) (a := a5) (b := 1) rfl rfl) ?_
      refine sd_ev rfl rfl rfl (ev_st1 (cs' := [.int .i64 (w64 (a5 + 1))]) (one_3).siz rfl rfl rfl Fw9_0 rfl rfl) ?_
      rintro _ w10 ⟨Bw10, Mw10⟩
      have z22 := Mw10.size
      refine sd_nil ?_
      refine block_n ?_
      have K_23 : Kz [(1, b5)] w9 w10 := (Kz.md (Kz.refl _ _) Mw10)
      have Kq23 : Kp ([b5]) w9 w10 := kp_of_kz K_23 (by intro k hk; simp only [Nin, and_true, List.mem_cons, List.mem_append, mem_zf, List.not_mem_nil, or_false, false_or, not_or, ne_eq, List.nil_append, List.cons_append, true_and, and_true, false_and, and_false, not_true_eq_false, not_false_eq_true, or_true, true_or] at hk ⊢; omega)
      subst hnx1
      exact ⟨Kq23, ([b5]), (by intro c hc; simp only [List.mem_cons, List.mem_append, mem_zf, List.not_mem_nil, or_false, false_or, not_or, ne_eq, List.nil_append, List.cons_append, true_and, and_true, false_and, and_false, not_true_eq_false, not_false_eq_true, or_true, true_or] at hc ⊢; omega), ⟨w64 (a5 + 1), hm, rfl, Bw10, trivial⟩⟩
    · clear hm; rintro Dw11 fp w11 hDw11 Dfw11 nw11 ⟨a5, hm, rfl, Fw11_0, -⟩ Kw11
      replace hm := itL_end hm
      have Zw11 : Kz [(1, b5)] w7 w11 := kz_of_kp Kw11 (by intro k hk; simp only [Nin, and_true, List.mem_cons, List.mem_append, mem_zf, List.not_mem_nil, or_false, false_or, not_or, ne_eq, List.nil_append, List.cons_append, true_and, and_true, false_and, and_false, not_true_eq_false, not_false_eq_true, or_true, true_or] at hk ⊢; omega)
      have z24 := Kw11.size
      have lt25 := Df.lt (w := w11) Dfw11
      simp only [List.mem_cons, List.mem_append, mem_zf, List.not_mem_nil, or_false, false_or, not_or, ne_eq, List.nil_append, List.cons_append, true_and, and_true, false_and, and_false, not_true_eq_false, not_false_eq_true, or_true, true_or, not_and] at nw11
      have lt26 := Fw11_0.lt
      unfold cover_Storage_D1 at hm
      try dsimp only at hm
      refine block_n ?_
      refine then_n ?_
      refine sw_seq ?_
      -- region 7 cover.go:143
      refine sw_region [(0, 0), (1, 0), (2, 0)] rfl rfl rfl ?_
      refine sd_vv rfl rfl rfl (vv_load1 (v := .int .i64 a5) one_3 rfl Fw11_0 rfl) ?_
      refine sd_vv rfl rfl rfl (vv_assign rfl) ?_
      refine sd_vv rfl rfl rfl (vv_assign rfl) ?_
      refine sd_done ?_
      refine sw_ret ?_
      have DL27 := Dfw11
      have L27 := Md.put (w := w11) Dw11 (.deferred none)
      have zL27 := L27.size
      have X28 : Gr w (w11.putObj Dw11 (.deferred none)) := (Gr.md (Gr.kz X15 Zw11) L27)
      have hr := Option.some.inj hm
      subst hr
      refine ⟨_, _, ⟨Dw11, rfl, DL27, rfl⟩, res_2 rfl (rv_tmp rfl) (rv_tmp rfl), ?_⟩
      exact ⟨rfl, X28⟩
    · rintro _ _ _ _ _ _ _ _ _ h _
      exact h.elim

set_option maxHeartbeats 2000000 in
theorem cover_Split_1_w (p0 : Int) (p1 : Int) (p2 : Int) (p3 : Int)  (r : List TSubset × Int) (hm : cover_Split_1 p0 p1 p2 p3 = some r) (w : World)   :
    Calls Try.prog 76 [.int .i64 p0, .int .i64 p1, .int .i64 p2, .int .i64 p3].toArray w fun e w' => ∃ v, e = .returned v ∧ (∃ (ur0_s : Value) (zr0_s : Nat) (gr0_s : Nat), v = .tuple [ur0_s, .int .i64 r.2].toArray ∧ Own w' zr0_s gr0_s 47 2 ur0_s (r.1.map TSubset.cs) ∧ Hdn (zr0_s = 0 ∨ w.heap.size ≤ gr0_s) ∧ Gr w w') := by
  unfold cover_Split_1 at hm
  refine calls_of_sw (R := fun v w' => ∃ (ur0_s : Value) (zr0_s : Nat) (gr0_s : Nat), v = .tuple [ur0_s, .int .i64 r.2].toArray ∧ Own w' zr0_s gr0_s 47 2 ur0_s (r.1.map TSubset.cs) ∧ Hdn (zr0_s = 0 ∨ w.heap.size ≤ gr0_s) ∧ Gr w w') 17 Try.func76 rfl rfl rfl ?_
  refine sw_seq ?_
  -- region 0 cover.go:112
  refine sw_region [(0, 0), (1, 0)] rfl rfl rfl ?_
  refine sd_vv rfl rfl rfl (vv_assign rfl) ?_
  refine sd_vv rfl rfl rfl (vv_assign rfl) ?_
  refine sd_done ?_
  refine sw_seq ?_
  -- region 1 cover.go:113
  refine sw_region [(0, 0), (1, 0), (2, 0), (3, 0), (4, 0), (5, 0), (6, 0), (7, 0), (8, 0)] rfl rfl rfl ?_
  refine sd_vv rfl rfl rfl (vv_move rfl) ?_
  refine sd_vv rfl rfl rfl (vv_move rfl) ?_
  refine sd_vv rfl rfl rfl (vv_build (cs := TSubset.cs (TSubset.mk p0 p1)) bs_47 rfl rfl) ?_
  refine sd_vv rfl rfl rfl (vv_move rfl) ?_
  refine sd_vv rfl rfl rfl (vv_move rfl) ?_
  refine sd_vv rfl rfl rfl (vv_build (cs := TSubset.cs (TSubset.mk p2 p3)) bs_47 rfl rfl) ?_
  refine sd_ev rfl rfl rfl (ev_litT [(TSubset.mk p0 p1), (TSubset.mk p2 p3)] TSubset.cs bsl_48_2 rfl rfl (ws_of rfl) rfl rfl rfl) ?_
  rintro vw1 w1 ⟨gw1, hbw1, Ow1, Gw1⟩
  have z1 := Gw1.size
  have lt2 := Ow1.lth
  refine sd_vv rfl rfl rfl (vv_assign rfl) ?_
  refine sd_vv rfl rfl rfl (vv_assign rfl) ?_
  refine sd_done ?_
  refine sw_ret ?_
  have X3 : Gr w w1 := (Gr.trans (Gr.refl w) Gw1)
  have hr := Option.some.inj hm
  subst hr
  refine ⟨_, _, rfl, res_2 rfl (rv_tmp rfl) (rv_tmp rfl), ?_⟩
  exact ⟨vw1, 1, gw1, rfl, Ow1, ⟨(.inr tk0)⟩, X3⟩

set_option maxHeartbeats 2000000 in
theorem cover_Split_w (p0 : TScheme) (p1 : TSubset)  (r : List TSubset × Int) (hm : cover_Split p0 p1 = some r) (w : World)   :
    Calls Try.prog 28 [.agg (TScheme.cs p0).toArray, .agg (TSubset.cs p1).toArray].toArray w fun e w' => ∃ v, e = .returned v ∧ (∃ (ur0_s : Value) (zr0_s : Nat) (gr0_s : Nat), v = .tuple [ur0_s, .int .i64 r.2].toArray ∧ Own w' zr0_s gr0_s 47 2 ur0_s (r.1.map TSubset.cs) ∧ Hdn (zr0_s = 0 ∨ w.heap.size ≤ gr0_s) ∧ Gr w w') := by
  unfold cover_Split at hm
  refine calls_of_sw (R := fun v w' => ∃ (ur0_s : Value) (zr0_s : Nat) (gr0_s : Nat), v = .tuple [ur0_s, .int .i64 r.2].toArray ∧ Own w' zr0_s gr0_s 47 2 ur0_s (r.1.map TSubset.cs) ∧ Hdn (zr0_s = 0 ∨ w.heap.size ≤ gr0_s) ∧ Gr w w') 94 Try.func28 rfl rfl rfl ?_
  refine sw_seq ?_
  -- region 0 cover.go:104
  refine sw_region [(0, 0), (1, 0), (2, 0), (3, 0)] rfl rfl rfl ?_
  refine sd_ev rfl rfl rfl (ev_box (cs := TScheme.cs p0) rfl rfl) ?_
  rintro _ w1 ⟨b1, rfl, hbw1, Bw1, Gw1⟩
  have z1 := Gw1.size
  have lt2 := Bw1.lt
  refine sd_ev rfl rfl rfl (ev_box (cs := TSubset.cs p1) rfl rfl) ?_
  rintro _ w2 ⟨b2, rfl, hbw2, Bw2, Gw2⟩
  have z3 := Gw2.size
  have lt4 := Bw2.lt
  refine sd_vv rfl rfl rfl (vv_assign rfl) ?_
  refine sd_vv rfl rfl rfl (vv_assign rfl) ?_
  refine sd_done ?_
  refine sw_seq ?_
  -- region 1 cover.go:105
  refine sw_region [(0, 0), (1, 0), (2, 0), (3, 0), (4, 0), (5, 0), (6, 0), (7, 0), (8, 0), (9, 0)] rfl rfl rfl ?_
  have B5 := (Bx.gr Bw1 Gw2)
  refine sd_vv rfl rfl rfl (vv_loadW agg_45 rfl B5 rfl) ?_
  refine sd_vv rfl rfl rfl (vv_loadW agg_47 rfl Bw2 rfl) ?_
  refine sd_ev rfl rfl rfl (ev_litT [p1] TSubset.cs bsl_48_1 rfl rfl (ws_of rfl) rfl rfl rfl) ?_
  rintro vw3 w3 ⟨gw3, hbw3, Ow3, Gw3⟩
  have z6 := Gw3.size
  have lt7 := Ow3.lth
  have hb := bnd hm; clear hm; obtain ⟨x1, hx1, hm⟩ := hb
  refine sd_ev rfl rfl rfl (ev_call en_74 rfl (cover_enter_w p0 [p1] _ _ _ _ _ hx1 _ (Own.rd Ow3))) ?_
  rintro _ w4 ⟨rfl, Gw4⟩
  have z8 := Gw4.size
  refine sd_vv rfl rfl rfl (vv_move rfl) ?_
  refine sd_vv rfl rfl rfl (vv_extract rfl rfl) ?_
  refine sd_vv rfl rfl rfl (vv_extract rfl rfl) ?_
  refine sd_ev rfl rfl rfl (ev_alloc (cs := Tcover_tree.cs (Tcover_tree.mk 0#8 0 0)) zv_134 rfl) ?_
  rintro _ w5 ⟨b5, rfl, hbw5, Bw5, Gw5⟩
  have z9 := Gw5.size
  have lt10 := Bw5.lt
  refine sd_ev rfl rfl rfl (ev_stM (cs' := Tcover_tree.cs x1.1) (vs := Tcover_tree.cs x1.1) (agg_134).siz rfl rfl rfl rfl rfl Bw5 rfl rfl) ?_
  rintro _ w6 ⟨Bw6, Mw6⟩
  have z11 := Mw6.size
  refine sd_vv rfl rfl rfl (vv_assign rfl) ?_
  refine sd_done ?_
  refine sw_seq ?_
  refine sw_seq ?_
  -- region 2 cover.go:106
  refine sw_region [(0, 0), (1, 0)] rfl rfl rfl ?_
  refine sd_vv rfl rfl rfl (vv_move rfl) ?_
  refine sd_vv rfl rfl rfl (vv_neq (a := x1.2) (b := 0) rfl rfl) ?_
  refine sd_done ?_
  refine sw_cond rfl (fun c1 => ?_) (fun c1 => ?_)
  ·
    replace hm := ite_t (of_decide_eq_true c1) hm
    refine sw_seq ?_
    -- region 3 cover.go:107
    refine sw_region [(0, 0), (1, 0), (2, 0)] rfl rfl rfl ?_
    refine sd_vv rfl rfl rfl (vv_move rfl) ?_
    refine sd_vv rfl rfl rfl (vv_assign rfl) ?_
    refine sd_vv rfl rfl rfl (vv_assign rfl) ?_
    refine sd_done ?_
    refine sw_ret ?_
    refine then_r ?_
    have X12 : Gr w w6 := (Gr.md (Gr.trans (Gr.trans (Gr.trans (Gr.trans (Gr.trans (Gr.refl w) Gw1) Gw2) Gw3) Gw4) Gw5) Mw6)
    have hr := Option.some.inj hm
    subst hr
    refine ⟨_, _, rfl, res_2 rfl (rv_tmp rfl) (rv_tmp rfl), ?_⟩
    exact ⟨(.slice none 0 0), 0, 0, rfl, (own_nil _ 0 47 2), ⟨.inl rfl⟩, X12⟩
  ·
    replace hm := ite_f (of_decide_eq_false c1) hm
    refine sw_skip ?_
    refine then_n ?_
    refine sw_seq ?_
    refine sw_seq ?_
    -- region 4 cover.go:109
    refine sw_region [(0, 0), (1, 0), (2, 0), (3, 0), (4, 0)] rfl rfl rfl ?_
    refine sd_vv rfl rfl rfl (vv_loadW agg_134 rfl Bw6 rfl) ?_
    have B13 := (Bx.md (Bx.gr (Bx.gr (Bx.gr Bw2 Gw3) Gw4) Gw5) Mw6)
    refine sd_vv rfl rfl rfl (vv_loadW agg_47 rfl B13 rfl) ?_
    have hb := bnd hm; clear hm; obtain ⟨x2, hx2, hm⟩ := hb
    refine sd_ev rfl rfl rfl (ev_call en_75 rfl (cover_tree_members_w x1.1 p1 _ hx2 _)) ?_
    rintro u7_r0_s w7 ⟨_, z7_r0_s, g7_r0_s, rfl, O7_r0_s, f7_r0_s, Gw7⟩
    have z14 := Gw7.size
    have lt15 := O7_r0_s.lth
    refine sd_vv rfl rfl rfl (vv_lenT (l := x2) (c := ic) Try.underlying61 rfl (Own.rd O7_r0_s)) ?_
    refine sd_vv rfl rfl rfl (vv_eql (a := (x2.length : Int)) (b := 1) rfl rfl) ?_
    refine sd_done ?_
    refine sw_cond rfl (fun c2 => ?_) (fun c2 => ?_)
    ·
      replace hm := ite_t (of_decide_eq_true c2) hm
      refine sw_seq ?_
      -- region 5 cover.go:110
      refine sw_region [(0, 0), (1, 0)] rfl rfl rfl ?_
      refine sd_vv rfl rfl rfl (vv_assign rfl) ?_
      refine sd_vv rfl rfl rfl (vv_assign rfl) ?_
      refine sd_done ?_
      refine sw_ret ?_
      refine then_r ?_
      have X16 : Gr w w7 := (Gr.trans (Gr.md (Gr.trans (Gr.trans (Gr.trans (Gr.trans (Gr.trans (Gr.refl w) Gw1) Gw2) Gw3) Gw4) Gw5) Mw6) Gw7)
      have hr := Option.some.inj hm
      subst hr
      refine ⟨_, _, rfl, res_2 rfl (rv_tmp rfl) (rv_tmp rfl), ?_⟩
      exact ⟨(.slice none 0 0), 0, 0, rfl, (own_nil _ 0 47 2), ⟨.inl rfl⟩, X16⟩
    ·
      replace hm := ite_f (of_decide_eq_false c2) hm
      refine sw_skip ?_
      refine then_n ?_
      refine sw_seq ?_
      -- region 6 cover.go:112
      refine sw_region [(0, 0)] rfl rfl rfl ?_
      refine sd_vv rfl rfl rfl (vv_assign rfl) ?_
      refine sd_done ?_
      refine sw_seq ?_
      refine sw_block ?_
      refine sw_seq ?_
      -- region 7 cover.go:116
      refine sw_region [(0, 0), (1, 0), (2, 0), (3, 0)] rfl rfl rfl ?_
      refine sd_vv rfl rfl rfl (vv_fieldAddr fa_134_0 rfl) ?_
      have B17 := (Bx.gr Bw6 Gw7)
      refine sd_vv rfl rfl rfl (vv_load1 (v := bv x1.1.kind) one_5 rfl B17 rfl) ?_
      refine sd_vv rfl rfl rfl (vv_eqlB (p := x1.1.kind) (q := 1#8) rfl rfl) ?_
      refine sd_vv rfl rfl rfl (vv_assign rfl) ?_
      refine sd_done ?_
      refine sw_cond rfl (fun c3 => ?_) (fun c3 => ?_)
      ·
        replace hm := ite_t (of_decide_eq_true c3) hm
        refine sw_seq ?_
        -- region 8 cover.go:117
        refine sw_region [(0, 0), (1, 0), (2, 0), (3, 0), (4, 0), (5, 0), (6, 0), (7, 0), (8, 0), (9, 0), (10, 0), (11, 0), (12, 0)] rfl rfl rfl ?_
        refine sd_vv rfl rfl rfl (vv_move rfl) ?_
        refine sd_vv rfl rfl rfl (vv_fieldAddr fa_47_0 rfl) ?_
        have B18 := (Bx.gr B13 Gw7)
        refine sd_vv rfl rfl rfl (vv_load1 (v := .int .i64 p1.Node) one_3 rfl B18 rfl) ?_
        refine sd_vv rfl rfl rfl (vv_mul (k := .i64) (a := 2) (b := p1.Node) rfl rfl) ?_
        refine sd_vv rfl rfl rfl (vv_fieldAddr fa_47_0 rfl) ?_
        refine sd_vv rfl rfl rfl (vv_load1 (v := .int .i64 p1.Node) one_3 rfl B18 rfl) ?_
        refine sd_vv rfl rfl rfl (vv_mul (k := .i64) (a := 2) (b := p1.Node) rfl rfl) ?_
        refine sd_vv rfl rfl rfl (vv_add (k := .i64) (a := w64 (2 * p1.Node)) (b := 1) rfl rfl) ?_
        have hb := bnd hm; clear hm; obtain ⟨x3, hx3, hm⟩ := hb
        refine sd_ev rfl rfl rfl (ev_callV en_76 rfl rfl (cover_Split_1_w (w64 (2 * p1.Node)) 0 (w64 ((w64 (2 * p1.Node)) + 1)) 0 _ hx3 _)) ?_
        rintro _ w8 ⟨u8_r0_s, z8_r0_s, g8_r0_s, rfl, O8_r0_s, f8_r0_s, Gw8⟩
        have z19 := Gw8.size
        have lt20 := O8_r0_s.lth
        refine sd_vv rfl rfl rfl (vv_extract rfl rfl) ?_
        refine sd_vv rfl rfl rfl (vv_extract rfl rfl) ?_
        refine sd_vv rfl rfl rfl (vv_assign rfl) ?_
        refine sd_vv rfl rfl rfl (vv_assign rfl) ?_
        refine sd_done ?_
        refine sw_ret ?_
        refine block_r ?_
        refine then_r ?_
        have X21 : Gr w w8 := (Gr.trans (Gr.trans (Gr.md (Gr.trans (Gr.trans (Gr.trans (Gr.trans (Gr.trans (Gr.refl w) Gw1) Gw2) Gw3) Gw4) Gw5) Mw6) Gw7) Gw8)
        have hr := Option.some.inj hm
        subst hr
        refine ⟨_, _, rfl, res_2 rfl (rv_tmp rfl) (rv_tmp rfl), ?_⟩
        exact ⟨u8_r0_s, z8_r0_s, g8_r0_s, rfl, O8_r0_s, ⟨(pv_0 (A := (fun x => w.heap.size ≤ x)) f8_r0_s)⟩, X21⟩
      ·
        replace hm := ite_f (of_decide_eq_false c3) hm
        refine sw_seq ?_
        -- region 9 cover.go:118
        refine sw_region [(0, 0), (1, 0), (2, 0), (3, 0)] rfl rfl rfl ?_
        refine sd_vv rfl rfl rfl (vv_fieldAddr fa_47_1 rfl) ?_
        have B22 := (Bx.gr B13 Gw7)
        refine sd_vv rfl rfl rfl (vv_load1 (v := .int .i64 p1.Minus) one_3 rfl B22 rfl) ?_
        refine sd_vv rfl rfl rfl (vv_eql (a := p1.Minus) (b := 0) rfl rfl) ?_
        refine sd_vv rfl rfl rfl (vv_assign rfl) ?_
        refine sd_done ?_
        refine sw_cond rfl (fun c4 => ?_) (fun c4 => ?_)
        ·
          replace hm := ite_t (of_decide_eq_true c4) hm
          refine sw_seq ?_
          -- region 10 cover.go:119
          refine sw_region [(0, 0), (1, 0), (2, 0), (3, 0), (4, 0), (5, 0)] rfl rfl rfl ?_
          refine sd_vv rfl rfl rfl (vv_move rfl) ?_
          have hb := bnd hm; clear hm; obtain ⟨x4, hx4, hm⟩ := hb
          refine sd_ev rfl rfl rfl (ev_callV en_76 rfl rfl (cover_Split_1_w 1 2 1 3 _ hx4 _)) ?_
          rintro _ w9 ⟨u9_r0_s, z9_r0_s, g9_r0_s, rfl, O9_r0_s, f9_r0_s, Gw9⟩
          have z23 := Gw9.size
          have lt24 := O9_r0_s.lth
          refine sd_vv rfl rfl rfl (vv_extract rfl rfl) ?_
          refine sd_vv rfl rfl rfl (vv_extract rfl rfl) ?_
          refine sd_vv rfl rfl rfl (vv_assign rfl) ?_
          refine sd_vv rfl rfl rfl (vv_assign rfl) ?_
          refine sd_done ?_
          refine sw_ret ?_
          refine block_r ?_
          refine then_r ?_
          have X25 : Gr w w9 := (Gr.trans (Gr.trans (Gr.md (Gr.trans (Gr.trans (Gr.trans (Gr.trans (Gr.trans (Gr.refl w) Gw1) Gw2) Gw3) Gw4) Gw5) Mw6) Gw7) Gw9)
          have hr := Option.some.inj hm
          subst hr
          refine ⟨_, _, rfl, res_2 rfl (rv_tmp rfl) (rv_tmp rfl), ?_⟩
          exact ⟨u9_r0_s, z9_r0_s, g9_r0_s, rfl, O9_r0_s, ⟨(pv_0 (A := (fun x => w.heap.size ≤ x)) f9_r0_s)⟩, X25⟩
        ·
          replace hm := ite_f (of_decide_eq_false c4) hm
          refine sw_skip ?_
          refine block_n ?_
          refine then_n ?_
          refine sw_seq ?_
          -- region 11 cover.go:121 DRAWS
          refine sw_drawN [([])] [] (.leaf [(0, 10), (1, 10), (2, 10), (3, 10), (4, 10), (5, 10)]) (by kernel_rfl) (by kernel_rfl) rfl (by kernel_rfl) ?_
          intro w10 Gw10 zw10
          refine sdz_leaf ?_
          refine dd_hn 0 rfl rfl rfl rfl (Kp.refl ([]) w10) (fun w hS => vv_fieldAddr fa_47_0 rfl) ?_
          have B26 := (Bx.gr B22 Gw10)
          refine dd_hn 0 rfl rfl rfl rfl (Kp.refl ([]) w10) (fun w hS => vv_load1 (v := .int .i64 p1.Node) one_3 rfl (Bx.kp B26 hS) rfl) ?_
          refine dd_hn 0 rfl rfl rfl rfl (Kp.refl ([]) w10) (fun w hS => vv_fieldAddr fa_47_1 rfl) ?_
          refine dd_hn 0 rfl rfl rfl rfl (Kp.refl ([]) w10) (fun w hS => vv_load1 (v := .int .i64 p1.Minus) one_3 rfl (Bx.kp B26 hS) rfl) ?_
          refine dd_hn 0 rfl rfl rfl rfl (Kp.refl ([]) w10) (fun w hS => vv_assign rfl) ?_
          refine dd_hn 0 rfl rfl rfl rfl (Kp.refl ([]) w10) (fun w hS => vv_assign rfl) ?_
          refine sd_done ?_
          refine sw_seq ?_
          -- region 12 cover.go:122
          refine sw_region [(0, 0), (1, 0), (2, 0), (3, 0)] rfl rfl rfl ?_
          refine sd_vv rfl rfl rfl (vv_move rfl) ?_
          refine sd_vv rfl rfl rfl (vv_move rfl) ?_
          have hb := bnd hm; clear hm; obtain ⟨x5, hx5, hm⟩ := hb
          refine sd_ev rfl rfl rfl (ev_call en_77 rfl (cover_node_toward_w p1.Node p1.Minus _ hx5 _)) ?_
          rintro _ w11 ⟨rfl, Gw11⟩
          have z27 := Gw11.size
          refine sd_vv rfl rfl rfl (vv_assign rfl) ?_
          refine sd_done ?_
          refine sw_seq ?_
          refine sw_seq ?_
          -- region 13 cover.go:123
          refine sw_region [(0, 0), (1, 0), (2, 0)] rfl rfl rfl ?_
          refine sd_vv rfl rfl rfl (vv_move rfl) ?_
          refine sd_vv rfl rfl rfl (vv_move rfl) ?_
          refine sd_vv rfl rfl rfl (vv_eql (a := x5) (b := p1.Minus) rfl rfl) ?_
          refine sd_done ?_
          refine sw_cond rfl (fun c5 => ?_) (fun c5 => ?_)
          ·
            replace hm := ite_t (of_decide_eq_true c5) hm
            refine sw_seq ?_
            -- region 14 cover.go:124
            refine sw_region [(0, 0), (1, 0), (2, 0)] rfl rfl rfl ?_
            refine sd_vv rfl rfl rfl (vv_move rfl) ?_
            have hb := bnd hm; clear hm; obtain ⟨x6, hx6, hm⟩ := hb
            refine sd_ev rfl rfl rfl (ev_call en_78 rfl (cover_node_sibling_w x5 _ hx6 _)) ?_
            rintro _ w12 ⟨rfl, Gw12⟩
            have z28 := Gw12.size
            refine sd_vv rfl rfl rfl (vv_assign rfl) ?_
            refine sd_done ?_
            refine sw_seq ?_
            -- region 15 cover.go:125
            refine sw_region [(0, 0), (1, 0), (2, 0), (3, 0), (4, 0), (5, 0), (6, 0), (7, 0), (8, 0), (9, 0), (10, 0), (11, 0), (12, 0)] rfl rfl rfl ?_
            refine sd_vv rfl rfl rfl (vv_move rfl) ?_
            refine sd_vv rfl rfl rfl (vv_move rfl) ?_
            refine sd_vv rfl rfl rfl (vv_move rfl) ?_
            refine sd_vv rfl rfl rfl (vv_mul (k := .i64) (a := 2) (b := x6) rfl rfl) ?_
            refine sd_vv rfl rfl rfl (vv_move rfl) ?_
            refine sd_vv rfl rfl rfl (vv_move rfl) ?_
            refine sd_vv rfl rfl rfl (vv_mul (k := .i64) (a := 2) (b := x6) rfl rfl) ?_
            refine sd_vv rfl rfl rfl (vv_add (k := .i64) (a := w64 (2 * x6)) (b := 1) rfl rfl) ?_
            have hb := bnd hm; clear hm; obtain ⟨x7, hx7, hm⟩ := hb
            refine sd_ev rfl rfl rfl (ev_callV en_76 rfl rfl (cover_Split_1_w x6 (w64 (2 * x6)) x6 (w64 ((w64 (2 * x6)) + 1)) _ hx7 _)) ?_
            rintro _ w13 ⟨u13_r0_s, z13_r0_s, g13_r0_s, rfl, O13_r0_s, f13_r0_s, Gw13⟩
            have z29 := Gw13.size
            have lt30 := O13_r0_s.lth
            refine sd_vv rfl rfl rfl (vv_extract rfl rfl) ?_
            refine sd_vv rfl rfl rfl (vv_extract rfl rfl) ?_
            refine sd_vv rfl rfl rfl (vv_assign rfl) ?_
            refine sd_vv rfl rfl rfl (vv_assign rfl) ?_
            refine sd_done ?_
            refine sw_ret ?_
            refine then_r ?_
            have X31 : Gr w w13 := (Gr.trans (Gr.trans (Gr.trans (Gr.trans (Gr.trans (Gr.md (Gr.trans (Gr.trans (Gr.trans (Gr.trans (Gr.trans (Gr.refl w) Gw1) Gw2) Gw3) Gw4) Gw5) Mw6) Gw7) Gw10) Gw11) Gw12) Gw13)
            have hr := Option.some.inj hm
            subst hr
            refine ⟨_, _, rfl, res_2 rfl (rv_tmp rfl) (rv_tmp rfl), ?_⟩
            exact ⟨u13_r0_s, z13_r0_s, g13_r0_s, rfl, O13_r0_s, ⟨(pv_0 (A := (fun x => w.heap.size ≤ x)) f13_r0_s)⟩, X31⟩
          ·
            replace hm := ite_f (of_decide_eq_false c5) hm
            refine sw_skip ?_
            refine then_n ?_
            have X32 : Gr w w11 := (Gr.trans (Gr.trans (Gr.trans (Gr.md (Gr.trans (Gr.trans (Gr.trans (Gr.trans (Gr.trans (Gr.refl w) Gw1) Gw2) Gw3) Gw4) Gw5) Mw6) Gw7) Gw10) Gw11)
            refine sw_joinD (β := Int) [11, 74, 75, 76, 77, 78, 79, 80, 81, 82, 83] (fun a8 => [(11, .int .i64 a8)]) (fun a8 wr => (cover_Split_J1 p1 a8 = some r) ∧ Kz [] w11 wr) ?_ ?_
            · clear hm; rintro a8 w14 ⟨hm, Kw14⟩
              have z33 := Kw14.size
              unfold cover_Split_J1 at hm
              refine sw_seq ?_
              -- region 18 cover.go:130
              refine sw_region [(0, 0), (1, 0), (2, 0), (3, 0), (4, 0), (5, 0), (6, 0), (7, 0), (8, 0), (9, 0), (10, 0), (11, 0)] rfl rfl rfl ?_
              refine sd_vv rfl rfl rfl (vv_move rfl) ?_
              refine sd_vv rfl rfl rfl (vv_fieldAddr fa_47_0 rfl) ?_
              have B34 := (Bx.kz (Bx.gr B26 Gw11) Kw14)
              refine sd_vv rfl rfl rfl (vv_load1 (v := .int .i64 p1.Node) one_3 rfl B34 rfl) ?_
              refine sd_vv rfl rfl rfl (vv_move rfl) ?_
              refine sd_vv rfl rfl rfl (vv_move rfl) ?_
              refine sd_vv rfl rfl rfl (vv_fieldAddr fa_47_1 rfl) ?_
              refine sd_vv rfl rfl rfl (vv_load1 (v := .int .i64 p1.Minus) one_3 rfl B34 rfl) ?_
              have hb := bnd hm; clear hm; obtain ⟨x9, hx9, hm⟩ := hb
              refine sd_ev rfl rfl rfl (ev_callV en_76 rfl rfl (cover_Split_1_w p1.Node a8 a8 p1.Minus _ hx9 _)) ?_
              rintro _ w15 ⟨u15_r0_s, z15_r0_s, g15_r0_s, rfl, O15_r0_s, f15_r0_s, Gw15⟩
              have z35 := Gw15.size
              have lt36 := O15_r0_s.lth
              refine sd_vv rfl rfl rfl (vv_extract rfl rfl) ?_
              refine sd_vv rfl rfl rfl (vv_extract rfl rfl) ?_
              refine sd_vv rfl rfl rfl (vv_assign rfl) ?_
              refine sd_vv rfl rfl rfl (vv_assign rfl) ?_
              refine sd_done ?_
              refine sw_ret ?_
              have X37 : Gr w w15 := (Gr.trans (Gr.kz X32 Kw14) Gw15)
              have hr := Option.some.inj hm
              subst hr
              refine ⟨_, _, rfl, res_2 rfl (rv_tmp rfl) (rv_tmp rfl), ?_⟩
              exact ⟨u15_r0_s, z15_r0_s, g15_r0_s, rfl, O15_r0_s, ⟨(pv_0 (A := (fun x => w.heap.size ≤ x)) f15_r0_s)⟩, X37⟩
            ·
              refine sw_seq ?_
              -- region 16 cover.go:127
              refine sw_region [(0, 0), (1, 0), (2, 0), (3, 0), (4, 0), (5, 0)] rfl rfl rfl ?_
              have B38 := (Bx.gr (Bx.gr B17 Gw10) Gw11)
              refine sd_vv rfl rfl rfl (vv_loadW agg_134 rfl B38 rfl) ?_
              refine sd_vv rfl rfl rfl (vv_move rfl) ?_
              refine sd_vv rfl rfl rfl (vv_move rfl) ?_
              refine sd_vv rfl rfl rfl (vv_build (cs := TSubset.cs (TSubset.mk x5 p1.Minus)) bs_47 rfl rfl) ?_
              have hb := bnd hm; clear hm; obtain ⟨x10, hx10, hm⟩ := hb
              refine sd_ev rfl rfl rfl (ev_call en_79 rfl (cover_tree_subset_w x1.1 (TSubset.mk x5 p1.Minus) _ hx10 _)) ?_
              rintro _ w16 ⟨rfl, Gw16⟩
              have z39 := Gw16.size
              refine sd_vv rfl rfl rfl (vv_not rfl) ?_
              refine sd_done ?_
              refine sw_cond rfl (fun c6 => ?_) (fun c6 => ?_)
              ·
                replace hm := cnd_t c6 hm
                -- region 17 cover.go:128
                refine sw_region [(0, 0), (1, 0), (2, 0), (3, 0), (4, 0)] rfl rfl rfl ?_
                have B40 := (Bx.gr B38 Gw16)
                refine sd_vv rfl rfl rfl (vv_loadW agg_134 rfl B40 rfl) ?_
                refine sd_vv rfl rfl rfl (vv_move rfl) ?_
                refine sd_vv rfl rfl rfl (vv_move rfl) ?_
                have hb := bnd hm; clear hm; obtain ⟨x11, hx11, hm⟩ := hb
                refine sd_ev rfl rfl rfl (ev_call en_80 rfl (cover_tree_cut_w x1.1 p1.Node p1.Minus _ hx11 _)) ?_
                rintro _ w17 ⟨rfl, Gw17⟩
                have z41 := Gw17.size
                refine sd_vv rfl rfl rfl (vv_assign rfl) ?_
                refine sd_nil ?_
                have K_42 : Kz [] w11 w17 := (Kz.gr (Kz.gr (Kz.refl _ _) Gw16) Gw17)
                refine ⟨rfl, x11, ?_, hm, K_42⟩
                repeat' first | exact trivial | refine ⟨rfl, ?_⟩
              ·
                replace hm := cnd_f c6 hm
                refine sw_skip ?_
                have K_43 : Kz [] w11 w16 := (Kz.gr (Kz.refl _ _) Gw16)
                refine ⟨rfl, x5, ?_, hm, K_43⟩
                repeat' first | exact trivial | refine ⟨rfl, ?_⟩

set_option maxHeartbeats 2000000 in
theorem cover_Work_w (p0 : TScheme) (p1 : Int) (p2 : TSubset)  (r : Int × Int) (hm : cover_Work p0 p1 p2 = some r) (w : World)   :
    Calls Try.prog 50 [.agg (TScheme.cs p0).toArray, .int .i64 p1, .agg (TSubset.cs p2).toArray].toArray w fun e w' => ∃ v, e = .returned v ∧ (v = .tuple [.int .i64 r.1, .int .i64 r.2].toArray ∧ Gr w w') := by
  unfold cover_Work at hm
  refine calls_of_sw (R := fun v w' => v = .tuple [.int .i64 r.1, .int .i64 r.2].toArray ∧ Gr w w') 49 Try.func50 rfl rfl rfl ?_
  refine sw_seq ?_
  -- region 0 cover.go:235
  refine sw_region [(0, 0), (1, 0), (2, 0), (3, 0)] rfl rfl rfl ?_
  refine sd_ev rfl rfl rfl (ev_box (cs := TScheme.cs p0) rfl rfl) ?_
  rintro _ w1 ⟨b1, rfl, hbw1, Bw1, Gw1⟩
  have z1 := Gw1.size
  have lt2 := Bw1.lt
  refine sd_ev rfl rfl rfl (ev_box (cs := TSubset.cs p2) rfl rfl) ?_
  rintro _ w2 ⟨b2, rfl, hbw2, Bw2, Gw2⟩
  have z3 := Gw2.size
  have lt4 := Bw2.lt
  refine sd_ev rfl rfl rfl (ev_alloc (cs := [.int .i64 0]) zv_3 rfl) ?_
  rintro _ w3 ⟨b3, rfl, hbw3, Bw3, Gw3⟩
  have z5 := Gw3.size
  have lt6 := Bw3.lt
  refine sd_ev rfl rfl rfl (ev_alloc (cs := [.int .i64 0]) zv_31 rfl) ?_
  rintro _ w4 ⟨b4, rfl, hbw4, Bw4, Gw4⟩
  have z7 := Gw4.size
  have lt8 := Bw4.lt
  refine sd_done ?_
  refine sw_seq ?_
  -- region 1 cover.go:236
  refine sw_region [(0, 0), (1, 0), (2, 0), (3, 0), (4, 0), (5, 0), (6, 0), (7, 0)] rfl rfl rfl ?_
  have B9 := (Bx.gr (Bx.gr (Bx.gr Bw1 Gw2) Gw3) Gw4)
  refine sd_vv rfl rfl rfl (vv_loadW agg_45 rfl B9 rfl) ?_
  have hb := bnd hm; clear hm; obtain ⟨x1, hx1, hm⟩ := hb
  refine sd_ev rfl rfl rfl (ev_call en_74 rfl (cover_enter_w p0 ([] : List TSubset) _ _ _ _ _ hx1 _ (Own.rd (own_nil _ 0 47 2)))) ?_
  rintro _ w5 ⟨rfl, Gw5⟩
  have z10 := Gw5.size
  refine sd_vv rfl rfl rfl (vv_move rfl) ?_
  refine sd_vv rfl rfl rfl (vv_extract rfl rfl) ?_
  refine sd_vv rfl rfl rfl (vv_extract rfl rfl) ?_
  refine sd_ev rfl rfl rfl (ev_alloc (cs := Tcover_tree.cs (Tcover_tree.mk 0#8 0 0)) zv_134 rfl) ?_
  rintro _ w6 ⟨b6, rfl, hbw6, Bw6, Gw6⟩
  have z11 := Gw6.size
  have lt12 := Bw6.lt
  refine sd_ev rfl rfl rfl (ev_stM (cs' := Tcover_tree.cs x1.1) (vs := Tcover_tree.cs x1.1) (agg_134).siz rfl rfl rfl rfl rfl Bw6 rfl rfl) ?_
  rintro _ w7 ⟨Bw7, Mw7⟩
  have z13 := Mw7.size
  refine sd_vv rfl rfl rfl (vv_assign rfl) ?_
  refine sd_done ?_
  refine sw_seq ?_
  refine sw_seq ?_
  -- region 2 cover.go:237
  refine sw_region [(0, 0), (1, 0)] rfl rfl rfl ?_
  refine sd_vv rfl rfl rfl (vv_move rfl) ?_
  refine sd_vv rfl rfl rfl (vv_neq (a := x1.2) (b := 0) rfl rfl) ?_
  refine sd_done ?_
  refine sw_cond rfl (fun c1 => ?_) (fun c1 => ?_)
  ·
    replace hm := ite_t (of_decide_eq_true c1) hm
    refine sw_seq ?_
    -- region 3 cover.go:238
    refine sw_region [(0, 0), (1, 0), (2, 0)] rfl rfl rfl ?_
    refine sd_vv rfl rfl rfl (vv_move rfl) ?_
    have B14 := (Bx.md (Bx.gr (Bx.gr (Bx.gr Bw3 Gw4) Gw5) Gw6) Mw7)
    refine sd_ev rfl rfl rfl (ev_st1 (cs' := [.int .i64 0]) (one_3).siz rfl rfl rfl B14 rfl rfl) ?_
    rintro _ w8 ⟨Bw8, Mw8⟩
    have z15 := Mw8.size
    have B16 := (Bx.md (Bx.md (Bx.gr (Bx.gr Bw4 Gw5) Gw6) Mw7) Mw8)
    refine sd_ev rfl rfl rfl (ev_st1 (cs' := [.int .i64 x1.2]) (one_31).siz rfl rfl rfl B16 rfl rfl) ?_
    rintro _ w9 ⟨Bw9, Mw9⟩
    have z17 := Mw9.size
    refine sd_done ?_
    refine sw_ret ?_
    refine then_r ?_
    have B18 := (Bx.md Bw8 Mw9)
    have X19 : Gr w w9 := (Gr.md (Gr.md (Gr.md (Gr.trans (Gr.trans (Gr.trans (Gr.trans (Gr.trans (Gr.trans (Gr.refl w) Gw1) Gw2) Gw3) Gw4) Gw5) Gw6) Mw7) Mw8) Mw9)
    have hr := Option.some.inj hm
    subst hr
    refine ⟨_, _, rfl, res_2 rfl (rv_cell1 one_3 rfl B18) (rv_cell1 one_31 rfl Bw9), ?_⟩
    exact ⟨rfl, X19⟩
  ·
    replace hm := ite_f (of_decide_eq_false c1) hm
    refine sw_skip ?_
    refine then_n ?_
    refine sw_seq ?_
    refine sw_seq ?_
    -- region 4 cover.go:240
    refine sw_region [(0, 0), (1, 0), (2, 0), (3, 0)] rfl rfl rfl ?_
    refine sd_vv rfl rfl rfl (vv_loadW agg_134 rfl Bw7 rfl) ?_
    refine sd_vv rfl rfl rfl (vv_move rfl) ?_
    have hb := bnd hm; clear hm; obtain ⟨x2, hx2, hm⟩ := hb
    refine sd_ev rfl rfl rfl (ev_call en_92 rfl (cover_tree_receiver_w x1.1 p1 _ hx2 _)) ?_
    rintro _ w10 ⟨rfl, Gw10⟩
    have z20 := Gw10.size
    refine sd_vv rfl rfl rfl (vv_not rfl) ?_
    refine sd_done ?_
    refine sw_cond rfl (fun c2 => ?_) (fun c2 => ?_)
    ·
      replace hm := cnd_t c2 hm
      refine sw_seq ?_
      -- region 5 cover.go:241
      refine sw_region [(0, 0), (1, 0)] rfl rfl rfl ?_
      have B21 := (Bx.gr (Bx.md (Bx.gr (Bx.gr (Bx.gr Bw3 Gw4) Gw5) Gw6) Mw7) Gw10)
      refine sd_ev rfl rfl rfl (ev_st1 (cs' := [.int .i64 0]) (one_3).siz rfl rfl rfl B21 rfl rfl) ?_
      rintro _ w11 ⟨Bw11, Mw11⟩
      have z22 := Mw11.size
      have B23 := (Bx.md (Bx.gr (Bx.md (Bx.gr (Bx.gr Bw4 Gw5) Gw6) Mw7) Gw10) Mw11)
      refine sd_ev rfl rfl rfl (ev_st1 (cs' := [.int .i64 2]) (one_31).siz rfl rfl rfl B23 rfl rfl) ?_
      rintro _ w12 ⟨Bw12, Mw12⟩
      have z24 := Mw12.size
      refine sd_done ?_
      refine sw_ret ?_
      refine then_r ?_
      have B25 := (Bx.md Bw11 Mw12)
      have X26 : Gr w w12 := (Gr.md (Gr.md (Gr.trans (Gr.md (Gr.trans (Gr.trans (Gr.trans (Gr.trans (Gr.trans (Gr.trans (Gr.refl w) Gw1) Gw2) Gw3) Gw4) Gw5) Gw6) Mw7) Gw10) Mw11) Mw12)
      have hr := Option.some.inj hm
      subst hr
      refine ⟨_, _, rfl, res_2 rfl (rv_cell1 one_3 rfl B25) (rv_cell1 one_31 rfl Bw12), ?_⟩
      exact ⟨rfl, X26⟩
    ·
      replace hm := cnd_f c2 hm
      refine sw_skip ?_
      refine then_n ?_
      refine sw_seq ?_
      refine sw_seq ?_
      -- region 6 cover.go:243
      refine sw_region [(0, 0), (1, 0), (2, 0), (3, 0)] rfl rfl rfl ?_
      have B27 := (Bx.gr Bw7 Gw10)
      refine sd_vv rfl rfl rfl (vv_loadW agg_134 rfl B27 rfl) ?_
      have B28 := (Bx.gr (Bx.md (Bx.gr (Bx.gr (Bx.gr (Bx.gr Bw2 Gw3) Gw4) Gw5) Gw6) Mw7) Gw10)
      refine sd_vv rfl rfl rfl (vv_loadW agg_47 rfl B28 rfl) ?_
      have hb := bnd hm; clear hm; obtain ⟨x3, hx3, hm⟩ := hb
      refine sd_ev rfl rfl rfl (ev_call en_79 rfl (cover_tree_subset_w x1.1 p2 _ hx3 _)) ?_
      rintro _ w13 ⟨rfl, Gw13⟩
      have z29 := Gw13.size
      refine sd_vv rfl rfl rfl (vv_not rfl) ?_
      refine sd_done ?_
      refine sw_cond rfl (fun c3 => ?_) (fun c3 => ?_)
      ·
        replace hm := cnd_t c3 hm
        refine sw_seq ?_
        -- region 7 cover.go:244
        refine sw_region [(0, 0), (1, 0)] rfl rfl rfl ?_
        have B30 := (Bx.gr (Bx.gr (Bx.md (Bx.gr (Bx.gr (Bx.gr Bw3 Gw4) Gw5) Gw6) Mw7) Gw10) Gw13)
        refine sd_ev rfl rfl rfl (ev_st1 (cs' := [.int .i64 0]) (one_3).siz rfl rfl rfl B30 rfl rfl) ?_
        rintro _ w14 ⟨Bw14, Mw14⟩
        have z31 := Mw14.size
        have B32 := (Bx.md (Bx.gr (Bx.gr (Bx.md (Bx.gr (Bx.gr Bw4 Gw5) Gw6) Mw7) Gw10) Gw13) Mw14)
        refine sd_ev rfl rfl rfl (ev_st1 (cs' := [.int .i64 31]) (one_31).siz rfl rfl rfl B32 rfl rfl) ?_
        rintro _ w15 ⟨Bw15, Mw15⟩
        have z33 := Mw15.size
        refine sd_done ?_
        refine sw_ret ?_
        refine then_r ?_
        have B34 := (Bx.md Bw14 Mw15)
        have X35 : Gr w w15 := (Gr.md (Gr.md (Gr.trans (Gr.trans (Gr.md (Gr.trans (Gr.trans (Gr.trans (Gr.trans (Gr.trans (Gr.trans (Gr.refl w) Gw1) Gw2) Gw3) Gw4) Gw5) Gw6) Mw7) Gw10) Gw13) Mw14) Mw15)
        have hr := Option.some.inj hm
        subst hr
        refine ⟨_, _, rfl, res_2 rfl (rv_cell1 one_3 rfl B34) (rv_cell1 one_31 rfl Bw15), ?_⟩
        exact ⟨rfl, X35⟩
      ·
        replace hm := cnd_f c3 hm
        refine sw_skip ?_
        refine then_n ?_
        refine sw_seq ?_
        refine sw_seq ?_
        -- region 8 cover.go:246
        refine sw_region [(0, 0), (1, 0), (2, 0)] rfl rfl rfl ?_
        have B36 := (Bx.gr B27 Gw13)
        refine sd_vv rfl rfl rfl (vv_loadW agg_134 rfl B36 rfl) ?_
        refine sd_vv rfl rfl rfl (vv_move rfl) ?_
        have hb := bnd hm; clear hm; obtain ⟨x4, hx4, hm⟩ := hb
        refine sd_ev rfl rfl rfl (ev_call en_82 rfl (cover_tree_labels_w x1.1 p1 _ hx4 _)) ?_
        rintro _ w16 ⟨k16_c0_0, k16_c0_1, rfl, O16_c0_0, f16_c0_0, O16_c0_1, f16_c0_1, Gw16⟩
        have z37 := Gw16.size
        have lt38 := O16_c0_0.lt
        have lt39 := O16_c0_1.lt
        refine sd_done ?_
        refine sw_block ?_
        have hb := bnd hm; clear hm; obtain ⟨l5, hl5, hm⟩ := hb
        have X40 : Gr w w16 := (Gr.trans (Gr.trans (Gr.trans (Gr.md (Gr.trans (Gr.trans (Gr.trans (Gr.trans (Gr.trans (Gr.trans (Gr.refl w) Gw1) Gw2) Gw3) Gw4) Gw5) Gw6) Mw7) Gw10) Gw13) Gw16)
        have B41 := (Bx.gr (Bx.gr (Bx.gr (Bx.md (Bx.gr (Bx.gr B9 Gw5) Gw6) Mw7) Gw10) Gw13) Gw16)
        have B42 := (Bx.gr (Bx.gr B28 Gw13) Gw16)
        have B43 := (Bx.gr (Bx.gr (Bx.gr (Bx.md (Bx.gr (Bx.gr (Bx.gr Bw3 Gw4) Gw5) Gw6) Mw7) Gw10) Gw13) Gw16)
        have B44 := (Bx.gr (Bx.gr (Bx.gr (Bx.md (Bx.gr (Bx.gr Bw4 Gw5) Gw6) Mw7) Gw10) Gw13) Gw16)
        have B45 := (Bx.gr B36 Gw16)
        refine sw_rangeFunc (gf := 129) rfl en_129 (cover_tree_labels_1_it x4.1 x4.2 _ _ _ hl5 _ O16_c0_0 O16_c0_1) (by intro x hx; obtain ⟨a, _, rfl⟩ := List.mem_map.1 hx; rfl) rfl _ _ ([b3, b4]) (stb_mk (α := Int) (fun a7 rk => itL (cover_Work_R1 p2 x1) cover_Work_D1 (List.drop rk l5) a7 = some r) (fun a7 => ([b3, b4])) (fun a7 W => Bx W b3 3 ([.int .i64 a7]) ∧ Bx W b4 31 ([.int .i64 0]) ∧ True) (by rintro a7 W ⟨F0, F1, _⟩ b hb; have q0 := F0.lt; have q1 := F1.lt; replace hb : b ∈ ([b3, b4]) := hb; simp only [List.mem_cons, List.mem_append, mem_zf, List.not_mem_nil, or_false, false_or, not_or, ne_eq, List.nil_append, List.cons_append, true_and, and_true, false_and, and_false, not_true_eq_false, not_false_eq_true, or_true, true_or] at hb; omega) (by rintro a7 W W' ⟨F0, F1, _⟩ E hs; replace hs : ∀ b ∈ ([b3, b4]), W'.heap[b]? = W.heap[b]? := hs; exact ⟨(hs _ (by simp)).trans F0, (hs _ (by simp)).trans F1, trivial⟩)) (fun c => (stb_c (c = .ret) (stb_mk (α := Int) (fun a7 rk => cover_Work_X1_0 a7 = some r) (fun a7 => ([b3, b4])) (fun a7 W => Bx W b3 3 ([.int .i64 a7]) ∧ Bx W b4 31 ([.int .i64 0]) ∧ True) (by rintro a7 W ⟨F0, F1, _⟩ b hb; have q0 := F0.lt; have q1 := F1.lt; replace hb : b ∈ ([b3, b4]) := hb; simp only [List.mem_cons, List.mem_append, mem_zf, List.not_mem_nil, or_false, false_or, not_or, ne_eq, List.nil_append, List.cons_append, true_and, and_true, false_and, and_false, not_true_eq_false, not_false_eq_true, or_true, true_or] at hb; omega) (by rintro a7 W W' ⟨F0, F1, _⟩ E hs; replace hs : ∀ b ∈ ([b3, b4]), W'.heap[b]? = W.heap[b]? := hs; exact ⟨(hs _ (by simp)).trans F0, (hs _ (by simp)).trans F1, trivial⟩)))) (by intro b hb; simp only [List.mem_cons, List.mem_append, mem_zf, List.not_mem_nil, or_false, false_or, not_or, ne_eq, List.nil_append, List.cons_append, true_and, and_true, false_and, and_false, not_true_eq_false, not_false_eq_true, or_true, true_or] at hb ⊢; omega) ⟨0, hm, rfl, B43, B44, trivial⟩ ?_ ?_ ?_
        · rintro l rk x fp w17 hl hx _ Kw17 hF hln hlt
          clear hm
          obtain ⟨⟨e8, e9⟩, hxe, rfl⟩ := map_some hx
          have Zw17 : Kz [(1, b3), (1, b4)] w16 w17 := kz_of_kp Kw17 (by intro k hk; simp only [Nin, and_true, List.mem_cons, List.mem_append, mem_zf, List.not_mem_nil, or_false, false_or, not_or, ne_eq, List.nil_append, List.cons_append, true_and, and_true, false_and, and_false, not_true_eq_false, not_false_eq_true, or_true, true_or] at hk ⊢; omega)
          have z46 := Kw17.size
          refine sw_seq ?_
          -- region 9 cover.go:246
          refine sw_region [(0, 0)] rfl rfl rfl ?_
          refine sd_vv rfl rfl rfl (vv_assign rfl) ?_
          refine sd_done ?_
          -- region 10 cover.go:246
          refine sw_region [(0, 0)] rfl rfl rfl ?_
          refine sd_vv rfl rfl rfl (vv_assign rfl) ?_
          refine sd_nil ?_
          refine ⟨rfl, (Gr.refl _), ?_⟩
          rintro w18 Mw18 ⟨a7, hm, rfl, Fw18_0, Fw18_1, -⟩
          have z47 := Mw18.size
          have lt48 := Fw18_0.lt
          have lt49 := Fw18_1.lt
          replace hm := itL_at hm hxe
          generalize hnx1 : itL (cover_Work_R1 p2 x1) cover_Work_D1 (List.drop (rk + 1) l5) = nx1 at hm
          unfold cover_Work_R1 at hm
          try dsimp only at hm
          refine sw_block ?_
          refine sw_seq ?_
          refine sw_seq ?_
          -- region 11 cover.go:247
          refine sw_region [(0, 0), (1, 0), (2, 0), (3, 0), (4, 0), (5, 0), (6, 0)] rfl rfl rfl ?_
          have B50 := (Bx.md (Bx.kz B45 Zw17) Mw18)
          refine sd_vv rfl rfl rfl (vv_loadW agg_134 rfl B50 rfl) ?_
          refine sd_vv rfl rfl rfl (vv_move rfl) ?_
          refine sd_vv rfl rfl rfl (vv_move rfl) ?_
          refine sd_vv rfl rfl rfl (vv_build (cs := TLabel.cs (TLabel.mk e8 e9 k0)) bs_81 rfl (by kernel_rfl)) ?_
          have B51 := (Bx.md (Bx.kz B42 Zw17) Mw18)
          refine sd_vv rfl rfl rfl (vv_loadW agg_47 rfl B51 rfl) ?_
          have hb := bnd hm; clear hm; obtain ⟨x10, hx10, hm⟩ := hb
          refine sd_ev rfl rfl rfl (ev_call en_104 rfl (cover_tree_leads_w x1.1 (TLabel.mk e8 e9 k0) p2 _ hx10 _)) ?_
          rintro _ w19 ⟨rfl, Gw19⟩
          have z52 := Gw19.size
          refine sd_vv rfl rfl rfl (vv_not rfl) ?_
          refine sd_done ?_
          refine sw_cond rfl (fun c4 => ?_) (fun c4 => ?_)
          ·
            replace hm := cnd_t c4 hm
            refine sw_exit ?_
            refine then_x ?_
            refine block_x ?_
            have B54 := (Bx.gr Fw18_0 Gw19)
            have B55 := (Bx.gr Fw18_1 Gw19)
            have K_53 : Kz [(1, b3), (1, b4)] w18 w19 := (Kz.gr (Kz.refl _ _) Gw19)
            have Kq53 : Kp ([b3, b4]) w18 w19 := kp_of_kz K_53 (by intro k hk; simp only [Nin, and_true, List.mem_cons, List.mem_append, mem_zf, List.not_mem_nil, or_false, false_or, not_or, ne_eq, List.nil_append, List.cons_append, true_and, and_true, false_and, and_false, not_true_eq_false, not_false_eq_true, or_true, true_or] at hk ⊢; omega)
            subst hnx1
            exact ⟨Kq53, ([b3, b4]), (by intro c hc; simp only [List.mem_cons, List.mem_append, mem_zf, List.not_mem_nil, or_false, false_or, not_or, ne_eq, List.nil_append, List.cons_append, true_and, and_true, false_and, and_false, not_true_eq_false, not_false_eq_true, or_true, true_or] at hc ⊢; omega), ⟨a7, hm, rfl, B54, B55, trivial⟩⟩
          ·
            replace hm := cnd_f c4 hm
            refine sw_skip ?_
            refine then_n ?_
            refine sw_seq ?_
            refine sw_seq ?_
            -- region 12 cover.go:250
            refine sw_region [(0, 0), (1, 0)] rfl rfl rfl ?_
            refine sd_vv rfl rfl rfl (vv_move rfl) ?_
            refine sd_vv rfl rfl rfl (vv_eql (a := e9) (b := 0) rfl rfl) ?_
            refine sd_done ?_
            refine sw_cond rfl (fun c5 => ?_) (fun c5 => ?_)
            ·
              replace hm := ite_t (of_decide_eq_true c5) hm
              refine sw_seq ?_
              -- region 13 cover.go:251
              refine sw_region [(0, 0), (1, 0)] rfl rfl rfl ?_
              have B56 := (Bx.gr Fw18_0 Gw19)
              refine sd_ev rfl rfl rfl (ev_st1 (cs' := [.int .i64 0]) (one_3).siz rfl rfl rfl B56 rfl rfl) ?_
              rintro _ w20 ⟨Bw20, Mw20⟩
              have z57 := Mw20.size
              have B58 := (Bx.md (Bx.gr Fw18_1 Gw19) Mw20)
              refine sd_ev rfl rfl rfl (ev_st1 (cs' := [.int .i64 0]) (one_31).siz rfl rfl rfl B58 rfl rfl) ?_
              rintro _ w21 ⟨Bw21, Mw21⟩
              have z59 := Mw21.size
              refine sd_done ?_
              refine sw_ret ?_
              refine then_r ?_
              refine block_r ?_
              have B61 := (Bx.md Bw20 Mw21)
              have K_60 : Kz [(1, b3), (1, b4)] w18 w21 := (Kz.md (Kz.md (Kz.gr (Kz.refl _ _) Gw19) Mw20) Mw21)
              have Kq60 : Kp ([b3, b4]) w18 w21 := kp_of_kz K_60 (by intro k hk; simp only [Nin, and_true, List.mem_cons, List.mem_append, mem_zf, List.not_mem_nil, or_false, false_or, not_or, ne_eq, List.nil_append, List.cons_append, true_and, and_true, false_and, and_false, not_true_eq_false, not_false_eq_true, or_true, true_or] at hk ⊢; omega)
              exact ⟨Kq60, ([b3, b4]), (by intro c hc; simp only [List.mem_cons, List.mem_append, mem_zf, List.not_mem_nil, or_false, false_or, not_or, ne_eq, List.nil_append, List.cons_append, true_and, and_true, false_and, and_false, not_true_eq_false, not_false_eq_true, or_true, true_or] at hc ⊢; omega), ⟨rfl, 0, hm, rfl, B61, Bw21, trivial⟩⟩
            ·
              replace hm := ite_f (of_decide_eq_false c5) hm
              refine sw_skip ?_
              refine then_n ?_
              refine sw_seq ?_
              -- region 14 cover.go:253
              refine sw_region [(0, 0), (1, 0), (2, 0), (3, 0), (4, 0), (5, 0), (6, 0), (7, 0), (8, 0)] rfl rfl rfl ?_
              refine sd_vv rfl rfl rfl (vv_fieldAddr fa_47_1 rfl) ?_
              have B62 := (Bx.gr B51 Gw19)
              refine sd_vv rfl rfl rfl (vv_load1 (v := .int .i64 p2.Minus) one_3 rfl B62 rfl) ?_
              have hb := bnd hm; clear hm; obtain ⟨x11, hx11, hm⟩ := hb
              refine sd_ev rfl rfl rfl (ev_call en_105 rfl (cover_node_level_w p2.Minus _ hx11 _)) ?_
              rintro _ w22 ⟨rfl, Gw22⟩
              have z63 := Gw22.size
              refine sd_vv rfl rfl rfl (vv_move rfl) ?_
              have hb := bnd hm; clear hm; obtain ⟨x12, hx12, hm⟩ := hb
              refine sd_ev rfl rfl rfl (ev_call en_105 rfl (cover_node_level_w e9 _ hx12 _)) ?_
              rintro _ w23 ⟨rfl, Gw23⟩
              have z64 := Gw23.size
              refine sd_vv rfl rfl rfl (vv_sub (k := .i64) (a := x11) (b := x12) rfl rfl) ?_
              refine sd_vv rfl rfl rfl (vv_add (k := .i64) (a := w64 (x11 - x12)) (b := 1) rfl rfl) ?_
              have B65 := (Bx.gr (Bx.gr (Bx.gr Fw18_0 Gw19) Gw22) Gw23)
              refine sd_ev rfl rfl rfl (ev_st1 (cs' := [.int .i64 (w64 ((w64 (x11 - x12)) + 1))]) (one_3).siz rfl rfl rfl B65 rfl rfl) ?_
              rintro _ w24 ⟨Bw24, Mw24⟩
              have z66 := Mw24.size
              have B67 := (Bx.md (Bx.gr (Bx.gr (Bx.gr Fw18_1 Gw19) Gw22) Gw23) Mw24)
              refine sd_ev rfl rfl rfl (ev_st1 (cs' := [.int .i64 0]) (one_31).siz rfl rfl rfl B67 rfl rfl) ?_
              rintro _ w25 ⟨Bw25, Mw25⟩
              have z68 := Mw25.size
              refine sd_done ?_
              refine sw_ret ?_
              refine block_r ?_
              have B70 := (Bx.md Bw24 Mw25)
              have K_69 : Kz [(1, b3), (1, b4)] w18 w25 := (Kz.md (Kz.md (Kz.gr (Kz.gr (Kz.gr (Kz.refl _ _) Gw19) Gw22) Gw23) Mw24) Mw25)
              have Kq69 : Kp ([b3, b4]) w18 w25 := kp_of_kz K_69 (by intro k hk; simp only [Nin, and_true, List.mem_cons, List.mem_append, mem_zf, List.not_mem_nil, or_false, false_or, not_or, ne_eq, List.nil_append, List.cons_append, true_and, and_true, false_and, and_false, not_true_eq_false, not_false_eq_true, or_true, true_or] at hk ⊢; omega)
              exact ⟨Kq69, ([b3, b4]), (by intro c hc; simp only [List.mem_cons, List.mem_append, mem_zf, List.not_mem_nil, or_false, false_or, not_or, ne_eq, List.nil_append, List.cons_append, true_and, and_true, false_and, and_false, not_true_eq_false, not_false_eq_true, or_true, true_or] at hc ⊢; omega), ⟨rfl, w64 ((w64 (x11 - x12)) + 1), hm, rfl, B70, Bw25, trivial⟩⟩
        · clear hm; rintro Dw26 fp w26 hDw26 Dfw26 nw26 ⟨a7, hm, rfl, Fw26_0, Fw26_1, -⟩ Kw26
          replace hm := itL_end hm
          have Zw26 : Kz [(1, b3), (1, b4)] w16 w26 := kz_of_kp Kw26 (by intro k hk; simp only [Nin, and_true, List.mem_cons, List.mem_append, mem_zf, List.not_mem_nil, or_false, false_or, not_or, ne_eq, List.nil_append, List.cons_append, true_and, and_true, false_and, and_false, not_true_eq_false, not_false_eq_true, or_true, true_or] at hk ⊢; omega)
          have z71 := Kw26.size
          have lt72 := Df.lt (w := w26) Dfw26
          simp only [List.mem_cons, List.mem_append, mem_zf, List.not_mem_nil, or_false, false_or, not_or, ne_eq, List.nil_append, List.cons_append, true_and, and_true, false_and, and_false, not_true_eq_false, not_false_eq_true, or_true, true_or, not_and] at nw26
          have lt73 := Fw26_0.lt
          have lt74 := Fw26_1.lt
          unfold cover_Work_D1 at hm
          try dsimp only at hm
          refine block_n ?_
          refine then_n ?_
          refine sw_seq ?_
          -- region 15 cover.go:255
          refine sw_region [(0, 0), (1, 0)] rfl rfl rfl ?_
          refine sd_ev rfl rfl rfl (ev_st1 (cs' := [.int .i64 0]) (one_3).siz rfl rfl rfl Fw26_0 rfl rfl) ?_
          rintro _ w27 ⟨Bw27, Mw27⟩
          have z75 := Mw27.size
          have B76 := (Bx.md Fw26_1 Mw27)
          refine sd_ev rfl rfl rfl (ev_st1 (cs' := [.int .i64 6]) (one_31).siz rfl rfl rfl B76 rfl rfl) ?_
          rintro _ w28 ⟨Bw28, Mw28⟩
          have z77 := Mw28.size
          refine sd_done ?_
          refine sw_ret ?_
          have DL78 := (Df.md (Df.md Dfw26 Mw27) Mw28)
          have L78 := Md.put (w := w28) Dw26 (.deferred none)
          have zL78 := L78.size
          have B79 := (Bx.md (Bx.md Bw27 Mw28) L78)
          have B80 := (Bx.md Bw28 L78)
          have X81 : Gr w (w28.putObj Dw26 (.deferred none)) := (Gr.md (Gr.md (Gr.md (Gr.kz X40 Zw26) Mw27) Mw28) L78)
          have hr := Option.some.inj hm
          subst hr
          refine ⟨_, _, ⟨Dw26, rfl, DL78, rfl⟩, res_2 rfl (rv_cell1 one_3 rfl B79) (rv_cell1 one_31 rfl B80), ?_⟩
          exact ⟨rfl, X81⟩
        · clear hm; rintro Dw29 c rk fp w29 hDw29 Dfw29 nw29 hle ⟨rfl, a7, hm, rfl, Fw29_0, Fw29_1, -⟩ Kw29
          have Zw29 : Kz [(1, b3), (1, b4)] w16 w29 := kz_of_kp Kw29 (by intro k hk; simp only [Nin, and_true, List.mem_cons, List.mem_append, mem_zf, List.not_mem_nil, or_false, false_or, not_or, ne_eq, List.nil_append, List.cons_append, true_and, and_true, false_and, and_false, not_true_eq_false, not_false_eq_true, or_true, true_or] at hk ⊢; omega)
          have z82 := Kw29.size
          have lt83 := Df.lt (w := w29) Dfw29
          simp only [List.mem_cons, List.mem_append, mem_zf, List.not_mem_nil, or_false, false_or, not_or, ne_eq, List.nil_append, List.cons_append, true_and, and_true, false_and, and_false, not_true_eq_false, not_false_eq_true, or_true, true_or, not_and] at nw29
          have lt84 := Fw29_0.lt
          have lt85 := Fw29_1.lt
          unfold cover_Work_X1_0 at hm
          try dsimp only at hm
          refine sw_ret ?_
          refine block_r ?_
          refine then_r ?_
          have DL86 := Dfw29
          have L86 := Md.put (w := w29) Dw29 (.deferred none)
          have zL86 := L86.size
          have B87 := (Bx.md Fw29_0 L86)
          have B88 := (Bx.md Fw29_1 L86)
          have X89 : Gr w (w29.putObj Dw29 (.deferred none)) := (Gr.md (Gr.kz X40 Zw29) L86)
          have hr := Option.some.inj hm
          subst hr
          refine ⟨_, _, ⟨Dw29, rfl, DL86, rfl⟩, res_2 rfl (rv_cell1 one_3 rfl B87) (rv_cell1 one_31 rfl B88), ?_⟩
          exact ⟨rfl, X89⟩

set_option maxHeartbeats 2000000 in
theorem ref03_SameInts_w (p0 : List Int) (p1 : List Int) (vp0 : Value) (zp0 gp0 op0 : Nat) (vp1 : Value) (zp1 gp1 op1 : Nat) (r : Bool) (hm : ref03_SameInts p0 p1 = some r) (w : World) (hp0 : Rd w zp0 gp0 op0 1 vp0 (p0.map ic)) (hp1 : Rd w zp1 gp1 op1 1 vp1 (p1.map ic))  :
    Calls Try.prog 37 [vp0, vp1].toArray w fun e w' => ∃ v, e = .returned v ∧ (v = .bool r ∧ Gr w w') := by
  have lt1 := hp0.lth
  have lt2 := hp1.lth
  unfold ref03_SameInts at hm
  refine calls_of_sw (R := fun v w' => v = .bool r ∧ Gr w w') 26 Try.func37 rfl rfl rfl ?_
  refine sw_seq ?_
  -- region 0 ref.go:604
  refine sw_region [(0, 0)] rfl rfl rfl ?_
  refine sd_vv rfl rfl rfl (vv_assign rfl) ?_
  refine sd_done ?_
  refine sw_seq ?_
  refine sw_seq ?_
  -- region 1 ref.go:605
  refine sw_region [(0, 0), (1, 0), (2, 0), (3, 0), (4, 0)] rfl rfl rfl ?_
  refine sd_vv rfl rfl rfl (vv_move rfl) ?_
  refine sd_vv rfl rfl rfl (vv_lenT (l := p0) (c := ic) Try.underlying61 rfl hp0) ?_
  refine sd_vv rfl rfl rfl (vv_move rfl) ?_
  refine sd_vv rfl rfl rfl (vv_lenT (l := p1) (c := ic) Try.underlying61 rfl hp1) ?_
  refine sd_vv rfl rfl rfl (vv_neq (a := (p0.length : Int)) (b := (p1.length : Int)) rfl rfl) ?_
  refine sd_done ?_
  refine sw_cond rfl (fun c1 => ?_) (fun c1 => ?_)
  ·
    replace hm := ite_t (of_decide_eq_true c1) hm
    refine sw_seq ?_
    -- region 2 ref.go:606
    refine sw_region [(0, 0)] rfl rfl rfl ?_
    refine sd_vv rfl rfl rfl (vv_assign rfl) ?_
    refine sd_done ?_
    refine sw_ret ?_
    refine then_r ?_
    have hr := Option.some.inj hm
    subst hr
    refine ⟨_, _, rfl, res_1 rfl (rv_tmp rfl), ?_⟩
    exact ⟨rfl, (Gr.refl w)⟩
  ·
    replace hm := ite_f (of_decide_eq_false c1) hm
    refine sw_skip ?_
    refine then_n ?_
    refine sw_seq ?_
    refine sw_seq ?_
    -- region 3 ref.go:608
    refine sw_region [(0, 0)] rfl rfl rfl ?_
    refine sd_vv rfl rfl rfl (vv_assign rfl) ?_
    refine sd_done ?_
    refine sw_block ?_
    refine sw_loopD (α := Nat × Int) [4, 5, 11, 12, 13, 14, 15, 16, 17, 18, 19, 20, 21, 22, 23, 24, 25] (fun ⟨n1, a2⟩ => [(4, .bool false), (5, .int .i64 a2)]) (fun ⟨n1, a2⟩ wr => (fixN (ref03_SameInts_L1 p0 p1) n1 a2 = some r) ∧ Kz [] w wr) (fun ⟨n1, a2⟩ => n1) ⟨FUEL, 0⟩ ?_ ?_ ?_
    · repeat' first | exact trivial | refine ⟨rfl, ?_⟩
    · exact ⟨hm, Kz.refl _ _⟩
    · clear hm; rintro ⟨n1, a2⟩ w1 ⟨hm, Kw1⟩
      have z3 := Kw1.size
      have hb := fix_succ hm; clear hm; obtain ⟨n1, rfl, hm⟩ := hb
      generalize hrec1 : fixN (ref03_SameInts_L1 p0 p1) n1 = rec1 at hm
      unfold ref03_SameInts_L1 at hm
      try dsimp only at hm
      refine sw_seq ?_
      refine sw_seq ?_
      -- region 4 ref.go:608
      refine sw_region [(0, 0), (1, 0), (2, 0), (3, 0)] rfl rfl rfl ?_
      refine sd_vv rfl rfl rfl (vv_move rfl) ?_
      refine sd_vv rfl rfl rfl (vv_move rfl) ?_
      have B4 := (Rd.kz hp0 Kw1)
      refine sd_vv rfl rfl rfl (vv_lenT (l := p0) (c := ic) Try.underlying61 rfl B4) ?_
      refine sd_vv rfl rfl rfl (vv_lss (a := a2) (b := (p0.length : Int)) rfl rfl) ?_
      refine sd_done ?_
      refine sw_cond rfl (fun c2 => ?_) (fun c2 => ?_)
      ·
        replace hm := ite_t (of_decide_eq_true c2) hm
        refine sw_skip ?_
        refine then_n ?_
        refine sw_seq ?_
        refine sw_block ?_
        refine sw_seq ?_
        -- region 6 ref.go:609 DRAWS
        refine sw_drawN [([])] [] (.leaf [(0, 10), (1, 10), (2, 10), (3, 10), (4, 10), (5, 10), (6, 10), (7, 10), (8, 10)]) (by kernel_rfl) (by kernel_rfl) rfl (by kernel_rfl) ?_
        intro w2 Gw2 zw2
        refine sdz_leaf ?_
        refine dd_hn 0 rfl rfl rfl rfl (Kp.refl ([]) w2) (fun w hS => vv_move rfl) ?_
        refine dd_hn 0 rfl rfl rfl rfl (Kp.refl ([]) w2) (fun w hS => vv_move rfl) ?_
        have hb := bnd hm; clear hm; obtain ⟨y3, hy3, hm⟩ := hb
        have B5 := (Rd.gr B4 Gw2)
        refine dd_hn 0 rfl rfl rfl rfl (Kp.refl ([]) w2) (fun w hS => vv_ixT (i := a2) Try.underlying61 (one_3).siz rfl (Rd.kp B5 hS) rfl hy3) ?_
        refine dd_hn 0 rfl rfl rfl rfl (Kp.refl ([]) w2) (fun w hS => vv_el1T (q := 0) (u := .int .i64 y3) one_3 rfl (Rd.kp B5 hS) hy3 (by first | rfl | omega) rfl) ?_
        refine dd_hn 0 rfl rfl rfl rfl (Kp.refl ([]) w2) (fun w hS => vv_move rfl) ?_
        refine dd_hn 0 rfl rfl rfl rfl (Kp.refl ([]) w2) (fun w hS => vv_move rfl) ?_
        have hb := bnd hm; clear hm; obtain ⟨y4, hy4, hm⟩ := hb
        have B6 := (Rd.gr (Rd.kz hp1 Kw1) Gw2)
        refine dd_hn 0 rfl rfl rfl rfl (Kp.refl ([]) w2) (fun w hS => vv_ixT (i := a2) Try.underlying61 (one_3).siz rfl (Rd.kp B6 hS) rfl hy4) ?_
        refine dd_hn 0 rfl rfl rfl rfl (Kp.refl ([]) w2) (fun w hS => vv_el1T (q := 0) (u := .int .i64 y4) one_3 rfl (Rd.kp B6 hS) hy4 (by first | rfl | omega) rfl) ?_
        refine dd_hn 0 rfl rfl rfl rfl (Kp.refl ([]) w2) (fun w hS => vv_neq (a := y3) (b := y4) rfl rfl) ?_
        refine sd_done ?_
        refine sw_cond rfl (fun c3 => ?_) (fun c3 => ?_)
        ·
          replace hm := ite_t (of_decide_eq_true c3) hm
          refine sw_seq ?_
          -- region 7 ref.go:610
          refine sw_region [(0, 0)] rfl rfl rfl ?_
          refine sd_vv rfl rfl rfl (vv_assign rfl) ?_
          refine sd_done ?_
          refine sw_ret ?_
          refine block_r ?_
          refine then_r ?_
          refine then_r ?_
          refine block_r ?_
          refine then_r ?_
          have X7 : Gr w w2 := (Gr.trans (Gr.kz (Gr.refl w) Kw1) Gw2)
          have hr := Option.some.inj hm
          subst hr
          refine ⟨_, _, rfl, res_1 rfl (rv_tmp rfl), ?_⟩
          exact ⟨rfl, X7⟩
        ·
          replace hm := ite_f (of_decide_eq_false c3) hm
          refine sw_skip ?_
          refine block_n ?_
          refine then_n ?_
          -- region 5 ref.go:608
          refine sw_region [(0, 0), (1, 0), (2, 0)] rfl rfl rfl ?_
          refine sd_vv rfl rfl rfl (vv_move rfl) ?_
          refine sd_vv rfl rfl rfl (vv_add (k := .i64) (a := a2) (b := 1) rfl rfl) ?_
          refine sd_vv rfl rfl rfl (vv_assign rfl) ?_
          refine sd_nil ?_
          have K_8 : Kz [] w w2 := (Kz.gr Kw1 Gw2)
          subst hrec1
          refine ⟨rfl, ⟨n1, w64 (a2 + 1)⟩, ?_, ⟨hm, K_8⟩, Nat.lt_succ_self _⟩
          repeat' first | exact trivial | refine ⟨rfl, ?_⟩
      ·
        replace hm := ite_f (of_decide_eq_false c2) hm
        refine sw_exit ?_
        refine then_x ?_
        refine then_x ?_
        refine block_x ?_
        refine then_n ?_
        refine sw_seq ?_
        -- region 8 ref.go:613
        refine sw_region [(0, 0)] rfl rfl rfl ?_
        refine sd_vv rfl rfl rfl (vv_assign rfl) ?_
        refine sd_done ?_
        refine sw_ret ?_
        have X9 : Gr w w1 := (Gr.kz (Gr.refl w) Kw1)
        have hr := Option.some.inj hm
        subst hr
        refine ⟨_, _, rfl, res_1 rfl (rv_tmp rfl), ?_⟩
        exact ⟨rfl, X9⟩
end Go.Proofs.Ytecempahccgijaa.Mx
