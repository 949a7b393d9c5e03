/- Walks that follow mirrors: WHo. Printed by mx.py. -/
import Derived.Test.YtecempahccgijaaAl
import Derived.Test.YtecempahccgijaaWHoM
set_option linter.unusedVariables false
set_option linter.unusedSimpArgs false
set_option maxRecDepth 100000
namespace Go.Proofs.Ytecempahccgijaa.Mx
open Go Go.RowKit Go.Sx
theorem zv_31 : ZV Try.prog 31 (.int .i64 0) := fun _ => by kernel_rfl
theorem one_31 : One Try.prog 31 := fun _ => ⟨by kernel_rfl, by kernel_rfl⟩
theorem en_119 : En Try.prog 119 := fun _ _ => by kernel_rfl
theorem en_60 : En Try.prog 60 := fun _ _ => by kernel_rfl
theorem en_153 : En Try.prog 153 := fun _ _ => by kernel_rfl
theorem en_154 : En Try.prog 154 := fun _ _ => by kernel_rfl
theorem en_120 : En Try.prog 120 := fun _ _ => by kernel_rfl
theorem en_108 : En Try.prog 108 := fun _ _ => by kernel_rfl
theorem en_121 : En Try.prog 121 := fun _ _ => by kernel_rfl

set_option maxHeartbeats 2000000 in
theorem cover_Work_w (p0 : TScheme) (p1 : Int) (p2 : TSubset)  (r : Int × Int) (hm : cover_Work p0 p1 p2 = some r) (w : World)   :
    Calls Try.prog 50 [.agg (TScheme.cs p0).toArray, .int .i64 p1, .agg (TSubset.cs p2).toArray].toArray w fun e w' => ∃ v, e = .returned v ∧ (v = .tuple [.int .i64 r.1, .int .i64 r.2].toArray ∧ Gr w w') := by
  unfold cover_Work at hm
  refine calls_of_sw (R := fun v w' => v = .tuple [.int .i64 r.1, .int .i64 r.2].toArray ∧ Gr w w') 49 Try.func50 rfl rfl rfl ?_
  refine sw_seq ?_
  -- region 0 cover.go:235
  refine sw_region [(0, 0), (1, 0), (2, 0), (3, 0)] rfl rfl rfl ?_
  refine sd_ev rfl rfl rfl (ev_box (cs := TScheme.cs p0) rfl rfl) ?_
  rintro _ w1 ⟨b1, rfl, hbw1, Bw1, Gw1⟩
  have z1 := Gw1.size
  have lt2 := Bw1.lt
  refine sd_ev rfl rfl rfl (ev_box (cs := TSubset.cs p2) rfl rfl) ?_
  rintro _ w2 ⟨b2, rfl, hbw2, Bw2, Gw2⟩
  have z3 := Gw2.size
  have lt4 := Bw2.lt
  refine sd_ev rfl rfl rfl (ev_alloc (cs := [.int .i64 0]) zv_3 rfl) ?_
  rintro _ w3 ⟨b3, rfl, hbw3, Bw3, Gw3⟩
  have z5 := Gw3.size
  have lt6 := Bw3.lt
  refine sd_ev rfl rfl rfl (ev_alloc (cs := [.int .i64 0]) zv_31 rfl) ?_
  rintro _ w4 ⟨b4, rfl, hbw4, Bw4, Gw4⟩
  have z7 := Gw4.size
  have lt8 := Bw4.lt
  refine sd_done ?_
  refine sw_seq ?_
  -- region 1 cover.go:236
  refine sw_region [(0, 0), (1, 0), (2, 0), (3, 0), (4, 0), (5, 0), (6, 0), (7, 0)] rfl rfl rfl ?_
  have B9 := (Bx.gr (Bx.gr (Bx.gr Bw1 Gw2) Gw3) Gw4)
  refine sd_vv rfl rfl rfl (vv_loadW agg_45 rfl B9 rfl) ?_
  have hb := bnd hm; clear hm; obtain ⟨x1, hx1, hm⟩ := hb
  refine sd_ev rfl rfl rfl (ev_call en_74 rfl (cover_enter_w p0 ([] : List TSubset) _ _ _ _ _ hx1 _ (Own.rd (own_nil _ 0 47 2)))) ?_
  rintro _ w5 ⟨rfl, Gw5⟩
  have z10 := Gw5.size
  refine sd_vv rfl rfl rfl (vv_move rfl) ?_
  refine sd_vv rfl rfl rfl (vv_extract rfl rfl) ?_
  refine sd_vv rfl rfl rfl (vv_extract rfl rfl) ?_
  refine sd_ev rfl rfl rfl (ev_alloc (cs := Tcover_tree.cs (Tcover_tree.mk 0#8 0 0)) zv_134 rfl) ?_
  rintro _ w6 ⟨b6, rfl, hbw6, Bw6, Gw6⟩
  have z11 := Gw6.size
  have lt12 := Bw6.lt
  refine sd_ev rfl rfl rfl (ev_stM (cs' := Tcover_tree.cs x1.1) (vs := Tcover_tree.cs x1.1) (agg_134).siz rfl rfl rfl rfl rfl Bw6 rfl rfl) ?_
  rintro _ w7 ⟨Bw7, Mw7⟩
  have z13 := Mw7.size
  refine sd_vv rfl rfl rfl (vv_assign rfl) ?_
  refine sd_done ?_
  refine sw_seq ?_
  refine sw_seq ?_
  -- region 2 cover.go:237
  refine sw_region [(0, 0), (1, 0)] rfl rfl rfl ?_
  refine sd_vv rfl rfl rfl (vv_move rfl) ?_
  refine sd_vv rfl rfl rfl (vv_neq (a := x1.2) (b := 0) rfl rfl) ?_
  refine sd_done ?_
  refine sw_cond rfl (fun c1 => ?_) (fun c1 => ?_)
  ·
    replace hm := ite_t (of_decide_eq_true c1) hm
    refine sw_seq ?_
    -- region 3 cover.go:238
    refine sw_region [(0, 0), (1, 0), (2, 0)] rfl rfl rfl ?_
    refine sd_vv rfl rfl rfl (vv_move rfl) ?_
    have B14 := (Bx.md (Bx.gr (Bx.gr (Bx.gr Bw3 Gw4) Gw5) Gw6) Mw7)
    refine sd_ev rfl rfl rfl (ev_st1 (cs' := [.int .i64 0]) (one_3).siz rfl rfl rfl B14 rfl rfl) ?_
    rintro _ w8 ⟨Bw8, Mw8⟩
    have z15 := Mw8.size
    have B16 := (Bx.md (Bx.md (Bx.gr (Bx.gr Bw4 Gw5) Gw6) Mw7) Mw8)
    refine sd_ev rfl rfl rfl (ev_st1 (cs' := [.int .i64 x1.2]) (one_31).siz rfl rfl rfl B16 rfl rfl) ?_
    rintro _ w9 ⟨Bw9, Mw9⟩
    have z17 := Mw9.size
    refine sd_done ?_
    refine sw_ret ?_
    refine then_r ?_
    have B18 := (Bx.md Bw8 Mw9)
    have X19 : Gr w w9 := (Gr.md (Gr.md (Gr.md (Gr.trans (Gr.trans (Gr.trans (Gr.trans (Gr.trans (Gr.trans (Gr.refl w) Gw1) Gw2) Gw3) Gw4) Gw5) Gw6) Mw7) Mw8) Mw9)
    have hr := Option.some.inj hm
    subst hr
    refine ⟨_, _, rfl, res_2 rfl (rv_cell1 one_3 rfl B18) (rv_cell1 one_31 rfl Bw9), ?_⟩
    exact ⟨rfl, X19⟩
  ·
    replace hm := ite_f (of_decide_eq_false c1) hm
    refine sw_skip ?_
    refine then_n ?_
    refine sw_seq ?_
    refine sw_seq ?_
    -- region 4 cover.go:240
    refine sw_region [(0, 0), (1, 0), (2, 0), (3, 0)] rfl rfl rfl ?_
    refine sd_vv rfl rfl rfl (vv_loadW agg_134 rfl Bw7 rfl) ?_
    refine sd_vv rfl rfl rfl (vv_move rfl) ?_
    have hb := bnd hm; clear hm; obtain ⟨x2, hx2, hm⟩ := hb
    refine sd_ev rfl rfl rfl (ev_call en_92 rfl (cover_tree_receiver_w x1.1 p1 _ hx2 _)) ?_
    rintro _ w10 ⟨rfl, Gw10⟩
    have z20 := Gw10.size
    refine sd_vv rfl rfl rfl (vv_not rfl) ?_
    refine sd_done ?_
    refine sw_cond rfl (fun c2 => ?_) (fun c2 => ?_)
    ·
      replace hm := cnd_t c2 hm
      refine sw_seq ?_
      -- region 5 cover.go:241
      refine sw_region [(0, 0), (1, 0)] rfl rfl rfl ?_
      have B21 := (Bx.gr (Bx.md (Bx.gr (Bx.gr (Bx.gr Bw3 Gw4) Gw5) Gw6) Mw7) Gw10)
      refine sd_ev rfl rfl rfl (ev_st1 (cs' := [.int .i64 0]) (one_3).siz rfl rfl rfl B21 rfl rfl) ?_
      rintro _ w11 ⟨Bw11, Mw11⟩
      have z22 := Mw11.size
      have B23 := (Bx.md (Bx.gr (Bx.md (Bx.gr (Bx.gr Bw4 Gw5) Gw6) Mw7) Gw10) Mw11)
      refine sd_ev rfl rfl rfl (ev_st1 (cs' := [.int .i64 2]) (one_31).siz rfl rfl rfl B23 rfl rfl) ?_
      rintro _ w12 ⟨Bw12, Mw12⟩
      have z24 := Mw12.size
      refine sd_done ?_
      refine sw_ret ?_
      refine then_r ?_
      have B25 := (Bx.md Bw11 Mw12)
      have X26 : Gr w w12 := (Gr.md (Gr.md (Gr.trans (Gr.md (Gr.trans (Gr.trans (Gr.trans (Gr.trans (Gr.trans (Gr.trans (Gr.refl w) Gw1) Gw2) Gw3) Gw4) Gw5) Gw6) Mw7) Gw10) Mw11) Mw12)
      have hr := Option.some.inj hm
      subst hr
      refine ⟨_, _, rfl, res_2 rfl (rv_cell1 one_3 rfl B25) (rv_cell1 one_31 rfl Bw12), ?_⟩
      exact ⟨rfl, X26⟩
    ·
      replace hm := cnd_f c2 hm
      refine sw_skip ?_
      refine then_n ?_
      refine sw_seq ?_
      refine sw_seq ?_
      -- region 6 cover.go:243
      refine sw_region [(0, 0), (1, 0), (2, 0), (3, 0)] rfl rfl rfl ?_
      have B27 := (Bx.gr Bw7 Gw10)
      refine sd_vv rfl rfl rfl (vv_loadW agg_134 rfl B27 rfl) ?_
      have B28 := (Bx.gr (Bx.md (Bx.gr (Bx.gr (Bx.gr (Bx.gr Bw2 Gw3) Gw4) Gw5) Gw6) Mw7) Gw10)
      refine sd_vv rfl rfl rfl (vv_loadW agg_47 rfl B28 rfl) ?_
      have hb := bnd hm; clear hm; obtain ⟨x3, hx3, hm⟩ := hb
      refine sd_ev rfl rfl rfl (ev_call en_79 rfl (cover_tree_subset_w x1.1 p2 _ hx3 _)) ?_
      rintro _ w13 ⟨rfl, Gw13⟩
      have z29 := Gw13.size
      refine sd_vv rfl rfl rfl (vv_not rfl) ?_
      refine sd_done ?_
      refine sw_cond rfl (fun c3 => ?_) (fun c3 => ?_)
      ·
        replace hm := cnd_t c3 hm
        refine sw_seq ?_
        -- region 7 cover.go:244
        refine sw_region [(0, 0), (1, 0)] rfl rfl rfl ?_
        have B30 := (Bx.gr (Bx.gr (Bx.md (Bx.gr (Bx.gr (Bx.gr Bw3 Gw4) Gw5) Gw6) Mw7) Gw10) Gw13)
        refine sd_ev rfl rfl rfl (ev_st1 (cs' := [.int .i64 0]) (one_3).siz rfl rfl rfl B30 rfl rfl) ?_
        rintro _ w14 ⟨Bw14, Mw14⟩
        have z31 := Mw14.size
        have B32 := (Bx.md (Bx.gr (Bx.gr (Bx.md (Bx.gr (Bx.gr Bw4 Gw5) Gw6) Mw7) Gw10) Gw13) Mw14)
        refine sd_ev rfl rfl rfl (ev_st1 (cs' := [.int .i64 31]) (one_31).siz rfl rfl rfl B32 rfl rfl) ?_
        rintro _ w15 ⟨Bw15, Mw15⟩
        have z33 := Mw15.size
        refine sd_done ?_
        refine sw_ret ?_
        refine then_r ?_
        have B34 := (Bx.md Bw14 Mw15)
        have X35 : Gr w w15 := (Gr.md (Gr.md (Gr.trans (Gr.trans (Gr.md (Gr.trans (Gr.trans (Gr.trans (Gr.trans (Gr.trans (Gr.trans (Gr.refl w) Gw1) Gw2) Gw3) Gw4) Gw5) Gw6) Mw7) Gw10) Gw13) Mw14) Mw15)
        have hr := Option.some.inj hm
        subst hr
        refine ⟨_, _, rfl, res_2 rfl (rv_cell1 one_3 rfl B34) (rv_cell1 one_31 rfl Bw15), ?_⟩
        exact ⟨rfl, X35⟩
      ·
        replace hm := cnd_f c3 hm
        refine sw_skip ?_
        refine then_n ?_
        refine sw_seq ?_
        refine sw_seq ?_
        -- region 8 cover.go:246
        refine sw_region [(0, 0), (1, 0), (2, 0)] rfl rfl rfl ?_
        have B36 := (Bx.gr B27 Gw13)
        refine sd_vv rfl rfl rfl (vv_loadW agg_134 rfl B36 rfl) ?_
        refine sd_vv rfl rfl rfl (vv_move rfl) ?_
        have hb := bnd hm; clear hm; obtain ⟨x4, hx4, hm⟩ := hb
        refine sd_ev rfl rfl rfl (ev_call en_82 rfl (cover_tree_labels_w x1.1 p1 _ hx4 _)) ?_
        rintro _ w16 ⟨k16_c0_0, k16_c0_1, rfl, O16_c0_0, f16_c0_0, O16_c0_1, f16_c0_1, Gw16⟩
        have z37 := Gw16.size
        have lt38 := O16_c0_0.lt
        have lt39 := O16_c0_1.lt
        refine sd_done ?_
        refine sw_block ?_
        have hb := bnd hm; clear hm; obtain ⟨l5, hl5, hm⟩ := hb
        have X40 : Gr w w16 := (Gr.trans (Gr.trans (Gr.trans (Gr.md (Gr.trans (Gr.trans (Gr.trans (Gr.trans (Gr.trans (Gr.trans (Gr.refl w) Gw1) Gw2) Gw3) Gw4) Gw5) Gw6) Mw7) Gw10) Gw13) Gw16)
        have B41 := (Bx.gr (Bx.gr (Bx.gr (Bx.md (Bx.gr (Bx.gr B9 Gw5) Gw6) Mw7) Gw10) Gw13) Gw16)
        have B42 := (Bx.gr (Bx.gr B28 Gw13) Gw16)
        have B43 := (Bx.gr (Bx.gr (Bx.gr (Bx.md (Bx.gr (Bx.gr (Bx.gr Bw3 Gw4) Gw5) Gw6) Mw7) Gw10) Gw13) Gw16)
        have B44 := (Bx.gr (Bx.gr (Bx.gr (Bx.md (Bx.gr (Bx.gr Bw4 Gw5) Gw6) Mw7) Gw10) Gw13) Gw16)
        have B45 := (Bx.gr B36 Gw16)
        refine sw_rangeFunc (gf := 129) rfl en_129 (cover_tree_labels_1_it x4.1 x4.2 _ _ _ hl5 _ O16_c0_0 O16_c0_1) (by intro x hx; obtain ⟨a, _, rfl⟩ := List.mem_map.1 hx; rfl) rfl _ _ ([b3, b4]) (stb_mk (α := Int) (fun a7 rk => itL (cover_Work_R1 p2 x1) cover_Work_D1 (List.drop rk l5) a7 = some r) (fun a7 => ([b3, b4])) (fun a7 W => Bx W b3 3 ([.int .i64 a7]) ∧ Bx W b4 31 ([.int .i64 0]) ∧ True) (by rintro a7 W ⟨F0, F1, _⟩ b hb; have q0 := F0.lt; have q1 := F1.lt; replace hb : b ∈ ([b3, b4]) := hb; simp only [List.mem_cons, List.mem_append, mem_zf, List.not_mem_nil, or_false, false_or, not_or, ne_eq, List.nil_append, List.cons_append, true_and, and_true, false_and, and_false, not_true_eq_false, not_false_eq_true, or_true, true_or] at hb; omega) (by rintro a7 W W' ⟨F0, F1, _⟩ E hs; replace hs : ∀ b ∈ ([b3, b4]), W'.heap[b]? = W.heap[b]? := hs; exact ⟨(hs _ (by simp)).trans F0, (hs _ (by simp)).trans F1, trivial⟩)) (fun c => (stb_c (c = .ret) (stb_mk (α := Int) (fun a7 rk => cover_Work_X1_0 a7 = some r) (fun a7 => ([b3, b4])) (fun a7 W => Bx W b3 3 ([.int .i64 a7]) ∧ Bx W b4 31 ([.int .i64 0]) ∧ True) (by rintro a7 W ⟨F0, F1, _⟩ b hb; have q0 := F0.lt; have q1 := F1.lt; replace hb : b ∈ ([b3, b4]) := hb; simp only [List.mem_cons, List.mem_append, mem_zf, List.not_mem_nil, or_false, false_or, not_or, ne_eq, List.nil_append, List.cons_append, true_and, and_true, false_and, and_false, not_true_eq_false, not_false_eq_true, or_true, true_or] at hb; omega) (by rintro a7 W W' ⟨F0, F1, _⟩ E hs; replace hs : ∀ b ∈ ([b3, b4]), W'.heap[b]? = W.heap[b]? := hs; exact ⟨(hs _ (by simp)).trans F0, (hs _ (by simp)).trans F1, trivial⟩)))) (by intro b hb; simp only [List.mem_cons, List.mem_append, mem_zf, List.not_mem_nil, or_false, false_or, not_or, ne_eq, List.nil_append, List.cons_append, true_and, and_true, false_and, and_false, not_true_eq_false, not_false_eq_true, or_true, true_or] at hb ⊢; omega) ⟨0, hm, rfl, B43, B44, trivial⟩ ?_ ?_ ?_
        · rintro l rk x fp w17 hl hx _ Kw17 hF hln hlt
          clear hm
          obtain ⟨⟨e8, e9⟩, hxe, rfl⟩ := map_some hx
          have Zw17 : Kz [(1, b3), (1, b4)] w16 w17 := kz_of_kp Kw17 (by intro k hk; simp only [Nin, and_true, List.mem_cons, List.mem_append, mem_zf, List.not_mem_nil, or_false, false_or, not_or, ne_eq, List.nil_append, List.cons_append, true_and, and_true, false_and, and_false, not_true_eq_false, not_false_eq_true, or_true, true_or] at hk ⊢; omega)
          have z46 := Kw17.size
          refine sw_seq ?_
          -- region 9 cover.go:246
          refine sw_region [(0, 0)] rfl rfl rfl ?_
          refine sd_vv rfl rfl rfl (vv_assign rfl) ?_
          refine sd_done ?_
          -- region 10 cover.go:246
          refine sw_region [(0, 0)] rfl rfl rfl ?_
          refine sd_vv rfl rfl rfl (vv_assign rfl) ?_
          refine sd_nil ?_
          refine ⟨rfl, (Gr.refl _), ?_⟩
          rintro w18 Mw18 ⟨a7, hm, rfl, Fw18_0, Fw18_1, -⟩
          have z47 := Mw18.size
          have lt48 := Fw18_0.lt
          have lt49 := Fw18_1.lt
          replace hm := itL_at hm hxe
          generalize hnx1 : itL (cover_Work_R1 p2 x1) cover_Work_D1 (List.drop (rk + 1) l5) = nx1 at hm
          unfold cover_Work_R1 at hm
          try dsimp only at hm
          refine sw_block ?_
          refine sw_seq ?_
          refine sw_seq ?_
          -- region 11 cover.go:247
          refine sw_region [(0, 0), (1, 0), (2, 0), (3, 0), (4, 0), (5, 0), (6, 0)] rfl rfl rfl ?_
          have B50 := (Bx.md (Bx.kz B45 Zw17) Mw18)
          refine sd_vv rfl rfl rfl (vv_loadW agg_134 rfl B50 rfl) ?_
          refine sd_vv rfl rfl rfl (vv_move rfl) ?_
          refine sd_vv rfl rfl rfl (vv_move rfl) ?_
          refine sd_vv rfl rfl rfl (vv_build (cs := TLabel.cs (TLabel.mk e8 e9 k0)) bs_81 rfl (by kernel_rfl)) ?_
          have B51 := (Bx.md (Bx.kz B42 Zw17) Mw18)
          refine sd_vv rfl rfl rfl (vv_loadW agg_47 rfl B51 rfl) ?_
          have hb := bnd hm; clear hm; obtain ⟨x10, hx10, hm⟩ := hb
          refine sd_ev rfl rfl rfl (ev_call en_104 rfl (cover_tree_leads_w x1.1 (TLabel.mk e8 e9 k0) p2 _ hx10 _)) ?_
          rintro _ w19 ⟨rfl, Gw19⟩
          have z52 := Gw19.size
          refine sd_vv rfl rfl rfl (vv_not rfl) ?_
          refine sd_done ?_
          refine sw_cond rfl (fun c4 => ?_) (fun c4 => ?_)
          ·
            replace hm := cnd_t c4 hm
            refine sw_exit ?_
            refine then_x ?_
            refine block_x ?_
            have B54 := (Bx.gr Fw18_0 Gw19)
            have B55 := (Bx.gr Fw18_1 Gw19)
            have K_53 : Kz [(1, b3), (1, b4)] w18 w19 := (Kz.gr (Kz.refl _ _) Gw19)
            have Kq53 : Kp ([b3, b4]) w18 w19 := kp_of_kz K_53 (by intro k hk; simp only [Nin, and_true, List.mem_cons, List.mem_append, mem_zf, List.not_mem_nil, or_false, false_or, not_or, ne_eq, List.nil_append, List.cons_append, true_and, and_true, false_and, and_false, not_true_eq_false, not_false_eq_true, or_true, true_or] at hk ⊢; omega)
            subst hnx1
            exact ⟨Kq53, ([b3, b4]), (by intro c hc; simp only [List.mem_cons, List.mem_append, mem_zf, List.not_mem_nil, or_false, false_or, not_or, ne_eq, List.nil_append, List.cons_append, true_and, and_true, false_and, and_false, not_true_eq_false, not_false_eq_true, or_true, true_or] at hc ⊢; omega), ⟨a7, hm, rfl, B54, B55, trivial⟩⟩
          ·
            replace hm := cnd_f c4 hm
            refine sw_skip ?_
            refine then_n ?_
            refine sw_seq ?_
            refine sw_seq ?_
            -- region 12 cover.go:250
            refine sw_region [(0, 0), (1, 0)] rfl rfl rfl ?_
            refine sd_vv rfl rfl rfl (vv_move rfl) ?_
            refine sd_vv rfl rfl rfl (vv_eql (a := e9) (b := 0) rfl rfl) ?_
            refine sd_done ?_
            refine sw_cond rfl (fun c5 => ?_) (fun c5 => ?_)
            ·
              replace hm := ite_t (of_decide_eq_true c5) hm
              refine sw_seq ?_
              -- region 13 cover.go:251
              refine sw_region [(0, 0), (1, 0)] rfl rfl rfl ?_
              have B56 := (Bx.gr Fw18_0 Gw19)
              refine sd_ev rfl rfl rfl (ev_st1 (cs' := [.int .i64 0]) (one_3).siz rfl rfl rfl B56 rfl rfl) ?_
              rintro _ w20 ⟨Bw20, Mw20⟩
              have z57 := Mw20.size
              have B58 := (Bx.md (Bx.gr Fw18_1 Gw19) Mw20)
              refine sd_ev rfl rfl rfl (ev_st1 (cs' := [.int .i64 0]) (one_31).siz rfl rfl rfl B58 rfl rfl) ?_
              rintro _ w21 ⟨Bw21, Mw21⟩
              have z59 := Mw21.size
              refine sd_done ?_
              refine sw_ret ?_
              refine then_r ?_
              refine block_r ?_
              have B61 := (Bx.md Bw20 Mw21)
              have K_60 : Kz [(1, b3), (1, b4)] w18 w21 := (Kz.md (Kz.md (Kz.gr (Kz.refl _ _) Gw19) Mw20) Mw21)
              have Kq60 : Kp ([b3, b4]) w18 w21 := kp_of_kz K_60 (by intro k hk; simp only [Nin, and_true, List.mem_cons, List.mem_append, mem_zf, List.not_mem_nil, or_false, false_or, not_or, ne_eq, List.nil_append, List.cons_append, true_and, and_true, false_and, and_false, not_true_eq_false, not_false_eq_true, or_true, true_or] at hk ⊢; omega)
              exact ⟨Kq60, ([b3, b4]), (by intro c hc; simp only [List.mem_cons, List.mem_append, mem_zf, List.not_mem_nil, or_false, false_or, not_or, ne_eq, List.nil_append, List.cons_append, true_and, and_true, false_and, and_false, not_true_eq_false, not_false_eq_true, or_true, true_or] at hc ⊢; omega), ⟨rfl, 0, hm, rfl, B61, Bw21, trivial⟩⟩
            ·
              replace hm := ite_f (of_decide_eq_false c5) hm
              refine sw_skip ?_
              refine then_n ?_
              refine sw_seq ?_
              -- region 14 cover.go:253
              refine sw_region [(0, 0), (1, 0), (2, 0), (3, 0), (4, 0), (5, 0), (6, 0), (7, 0), (8, 0)] rfl rfl rfl ?_
              refine sd_vv rfl rfl rfl (vv_fieldAddr fa_47_1 rfl) ?_
              have B62 := (Bx.gr B51 Gw19)
              refine sd_vv rfl rfl rfl (vv_load1 (v := .int .i64 p2.Minus) one_3 rfl B62 rfl) ?_
              have hb := bnd hm; clear hm; obtain ⟨x11, hx11, hm⟩ := hb
              refine sd_ev rfl rfl rfl (ev_call en_105 rfl (cover_node_level_w p2.Minus _ hx11 _)) ?_
              rintro _ w22 ⟨rfl, Gw22⟩
              have z63 := Gw22.size
              refine sd_vv rfl rfl rfl (vv_move rfl) ?_
              have hb := bnd hm; clear hm; obtain ⟨x12, hx12, hm⟩ := hb
              refine sd_ev rfl rfl rfl (ev_call en_105 rfl (cover_node_level_w e9 _ hx12 _)) ?_
              rintro _ w23 ⟨rfl, Gw23⟩
              have z64 := Gw23.size
              refine sd_vv rfl rfl rfl (vv_sub (k := .i64) (a := x11) (b := x12) rfl rfl) ?_
              refine sd_vv rfl rfl rfl (vv_add (k := .i64) (a := w64 (x11 - x12)) (b := 1) rfl rfl) ?_
              have B65 := (Bx.gr (Bx.gr (Bx.gr Fw18_0 Gw19) Gw22) Gw23)
              refine sd_ev rfl rfl rfl (ev_st1 (cs' := [.int .i64 (w64 ((w64 (x11 - x12)) + 1))]) (one_3).siz rfl rfl rfl B65 rfl rfl) ?_
              rintro _ w24 ⟨Bw24, Mw24⟩
              have z66 := Mw24.size
              have B67 := (Bx.md (Bx.gr (Bx.gr (Bx.gr Fw18_1 Gw19) Gw22) Gw23) Mw24)
              refine sd_ev rfl rfl rfl (ev_st1 (cs' := [.int .i64 0]) (one_31).siz rfl rfl rfl B67 rfl rfl) ?_
              rintro _ w25 ⟨Bw25, Mw25⟩
              have z68 := Mw25.size
              refine sd_done ?_
              refine sw_ret ?_
              refine block_r ?_
              have B70 := (Bx.md Bw24 Mw25)
              have K_69 : Kz [(1, b3), (1, b4)] w18 w25 := (Kz.md (Kz.md (Kz.gr (Kz.gr (Kz.gr (Kz.refl _ _) Gw19) Gw22) Gw23) Mw24) Mw25)
              have Kq69 : Kp ([b3, b4]) w18 w25 := kp_of_kz K_69 (by intro k hk; simp only [Nin, and_true, List.mem_cons, List.mem_append, mem_zf, List.not_mem_nil, or_false, false_or, not_or, ne_eq, List.nil_append, List.cons_append, true_and, and_true, false_and, and_false, not_true_eq_false, not_false_eq_true, or_true, true_or] at hk ⊢; omega)
              exact ⟨Kq69, ([b3, b4]), (by intro c hc; simp only [List.mem_cons, List.mem_append, mem_zf, List.not_mem_nil, or_false, false_or, not_or, ne_eq, List.nil_append, List.cons_append, true_and, and_true, false_and, and_false, not_true_eq_false, not_false_eq_true, or_true, true_or] at hc ⊢; omega), ⟨rfl, w64 ((w64 (x11 - x12)) + 1), hm, rfl, B70, Bw25, trivial⟩⟩
        · clear hm; rintro Dw26 fp w26 hDw26 Dfw26 nw26 ⟨a7, hm, rfl, Fw26_0, Fw26_1, -⟩ Kw26
          replace hm := itL_end hm
          have Zw26 : Kz [(1, b3), (1, b4)] w16 w26 := kz_of_kp Kw26 (by intro k hk; simp only [Nin, and_true, List.mem_cons, List.mem_append, mem_zf, List.not_mem_nil, or_false, false_or, not_or, ne_eq, List.nil_append, List.cons_append, true_and, and_true, false_and, and_false, not_true_eq_false, not_false_eq_true, or_true, true_or] at hk ⊢; omega)
          have z71 := Kw26.size
          have lt72 := Df.lt (w := w26) Dfw26
          simp only [List.mem_cons, List.mem_append, mem_zf, List.not_mem_nil, or_false, false_or, not_or, ne_eq, List.nil_append, List.cons_append, true_and, and_true, false_and, and_false, not_true_eq_false, not_false_eq_true, or_true, true_or, not_and] at nw26
          have lt73 := Fw26_0.lt
          have lt74 := Fw26_1.lt
          unfold cover_Work_D1 at hm
          try dsimp only at hm
          refine block_n ?_
          refine then_n ?_
          refine sw_seq ?_
          -- region 15 cover.go:255
          refine sw_region [(0, 0), (1, 0)] rfl rfl rfl ?_
          refine sd_ev rfl rfl rfl (ev_st1 (cs' := [.int .i64 0]) (one_3).siz rfl rfl rfl Fw26_0 rfl rfl) ?_
          rintro _ w27 ⟨Bw27, Mw27⟩
          have z75 := Mw27.size
          have B76 := (Bx.md Fw26_1 Mw27)
          refine sd_ev rfl rfl rfl (ev_st1 (cs' := [.int .i64 6]) (one_31).siz rfl rfl rfl B76 rfl rfl) ?_
          rintro _ w28 ⟨Bw28, Mw28⟩
          have z77 := Mw28.size
          refine sd_done ?_
          refine sw_ret ?_
          have DL78 := (Df.md (Df.md Dfw26 Mw27) Mw28)
          have L78 := Md.put (w := w28) Dw26 (.deferred none)
          have zL78 := L78.size
          have B79 := (Bx.md (Bx.md Bw27 Mw28) L78)
          have B80 := (Bx.md Bw28 L78)
          have X81 : Gr w (w28.putObj Dw26 (.deferred none)) := (Gr.md (Gr.md (Gr.md (Gr.kz X40 Zw26) Mw27) Mw28) L78)
          have hr := Option.some.inj hm
          subst hr
          refine ⟨_, _, ⟨Dw26, rfl, DL78, rfl⟩, res_2 rfl (rv_cell1 one_3 rfl B79) (rv_cell1 one_31 rfl B80), ?_⟩
          exact ⟨rfl, X81⟩
        · clear hm; rintro Dw29 c rk fp w29 hDw29 Dfw29 nw29 hle ⟨rfl, a7, hm, rfl, Fw29_0, Fw29_1, -⟩ Kw29
          have Zw29 : Kz [(1, b3), (1, b4)] w16 w29 := kz_of_kp Kw29 (by intro k hk; simp only [Nin, and_true, List.mem_cons, List.mem_append, mem_zf, List.not_mem_nil, or_false, false_or, not_or, ne_eq, List.nil_append, List.cons_append, true_and, and_true, false_and, and_false, not_true_eq_false, not_false_eq_true, or_true, true_or] at hk ⊢; omega)
          have z82 := Kw29.size
          have lt83 := Df.lt (w := w29) Dfw29
          simp only [List.mem_cons, List.mem_append, mem_zf, List.not_mem_nil, or_false, false_or, not_or, ne_eq, List.nil_append, List.cons_append, true_and, and_true, false_and, and_false, not_true_eq_false, not_false_eq_true, or_true, true_or, not_and] at nw29
          have lt84 := Fw29_0.lt
          have lt85 := Fw29_1.lt
          unfold cover_Work_X1_0 at hm
          try dsimp only at hm
          refine sw_ret ?_
          refine block_r ?_
          refine then_r ?_
          have DL86 := Dfw29
          have L86 := Md.put (w := w29) Dw29 (.deferred none)
          have zL86 := L86.size
          have B87 := (Bx.md Fw29_0 L86)
          have B88 := (Bx.md Fw29_1 L86)
          have X89 : Gr w (w29.putObj Dw29 (.deferred none)) := (Gr.md (Gr.kz X40 Zw29) L86)
          have hr := Option.some.inj hm
          subst hr
          refine ⟨_, _, ⟨Dw29, rfl, DL86, rfl⟩, res_2 rfl (rv_cell1 one_3 rfl B87) (rv_cell1 one_31 rfl B88), ?_⟩
          exact ⟨rfl, X89⟩

set_option maxHeartbeats 2000000 in
theorem ref03_Node_w (p0 : Int) (p1 : Int)  (r : Bool) (hm : ref03_Node p0 p1 = some r) (w : World)   :
    Calls Try.prog 119 [.int .i64 p0, .int .i64 p1].toArray w fun e w' => ∃ v, e = .returned v ∧ (v = .bool r ∧ Gr w w') := by
  unfold ref03_Node at hm
  refine calls_of_sw (R := fun v w' => v = .bool r ∧ Gr w w') 14 Try.func119 rfl rfl rfl ?_
  refine sw_seq ?_
  -- region 0 ref.go:51
  refine sw_region [(0, 0)] rfl rfl rfl ?_
  refine sd_vv rfl rfl rfl (vv_assign rfl) ?_
  refine sd_done ?_
  refine sw_seq ?_
  -- region 1 ref.go:51
  refine sw_region [(0, 0), (1, 0), (2, 0), (3, 0), (4, 0), (5, 0), (6, 0), (7, 0), (8, 0), (9, 0)] rfl rfl rfl ?_
  refine sd_vv rfl rfl rfl (vv_move rfl) ?_
  refine sd_vv rfl rfl rfl (vv_geq (a := p1) (b := 1) rfl rfl) ?_
  refine sd_split rfl rfl rfl (vv_move rfl) (fun c1 => ?_) (fun c1 => ?_)
  ·
    replace hm := ite_t (of_decide_eq_true c1) hm
    refine sd_vv rfl rfl rfl (vv_move rfl) ?_
    refine sd_vv rfl rfl rfl (vv_move rfl) ?_
    have hb := bnd hm; clear hm; obtain ⟨x1, hx1, hm⟩ := hb
    refine sd_ev rfl rfl rfl (ev_call en_118 rfl (ref03_Receivers_w p0 _ hx1 _)) ?_
    rintro _ w1 ⟨rfl, Gw1⟩
    have z1 := Gw1.size
    refine sd_vv rfl rfl rfl (vv_mul (k := .i64) (a := 2) (b := x1) rfl rfl) ?_
    refine sd_vv rfl rfl rfl (vv_lss (a := p1) (b := w64 (2 * x1)) rfl rfl) ?_
    refine sd_vv rfl rfl rfl (vv_pickT rfl rfl) ?_
    refine sd_vv rfl rfl rfl (vv_assign rfl) ?_
    refine sd_done ?_
    refine sw_ret ?_
    have X2 : Gr w w1 := (Gr.trans (Gr.refl w) Gw1)
    have hr := Option.some.inj hm
    subst hr
    refine ⟨_, _, rfl, res_1 rfl (rv_tmp rfl), ?_⟩
    exact ⟨rfl, X2⟩
  ·
    replace hm := ite_f (of_decide_eq_false c1) hm
    refine sd_skip rfl rfl rfl ?_
    refine sd_skip rfl rfl rfl ?_
    refine sd_skip rfl rfl rfl ?_
    refine sd_skip rfl rfl rfl ?_
    refine sd_skip rfl rfl rfl ?_
    refine sd_vv rfl rfl rfl (vv_pickF rfl rfl) ?_
    refine sd_vv rfl rfl rfl (vv_assign rfl) ?_
    refine sd_done ?_
    refine sw_ret ?_
    have hr := Option.some.inj hm
    subst hr
    refine ⟨_, _, rfl, res_1 rfl (rv_tmp rfl), ?_⟩
    exact ⟨rfl, (Gr.refl w)⟩

set_option maxHeartbeats 2000000 in
theorem ref03_Below_w (p0 : Int) (p1 : Int)  (r : Bool) (hm : ref03_Below p0 p1 = some r) (w : World)   :
    Calls Try.prog 60 [.int .i64 p0, .int .i64 p1].toArray w fun e w' => ∃ v, e = .returned v ∧ (v = .bool r ∧ Gr w w') := by
  unfold ref03_Below at hm
  refine calls_of_sw (R := fun v w' => v = .bool r ∧ Gr w w') 13 Try.func60 rfl rfl rfl ?_
  refine sw_seq ?_
  -- region 0 ref.go:64
  refine sw_region [(0, 0)] rfl rfl rfl ?_
  refine sd_vv rfl rfl rfl (vv_assign rfl) ?_
  refine sd_done ?_
  refine sw_seq ?_
  refine sw_block ?_
  refine sw_loopD (α := Nat × Int) [0, 5, 6, 7, 8, 9] (fun ⟨n1, a2⟩ => [(0, .int .i64 a2)]) (fun ⟨n1, a2⟩ wr => (fixN (ref03_Below_L1 p1) n1 a2 = some r) ∧ Kz [] w wr) (fun ⟨n1, a2⟩ => n1) ⟨FUEL, p0⟩ ?_ ?_ ?_
  · repeat' first | exact trivial | refine ⟨rfl, ?_⟩
  · exact ⟨hm, Kz.refl _ _⟩
  · clear hm; rintro ⟨n1, a2⟩ w1 ⟨hm, Kw1⟩
    have z1 := Kw1.size
    have hb := fix_succ hm; clear hm; obtain ⟨n1, rfl, hm⟩ := hb
    generalize hrec1 : fixN (ref03_Below_L1 p1) n1 = rec1 at hm
    unfold ref03_Below_L1 at hm
    try dsimp only at hm
    refine sw_seq ?_
    refine sw_seq ?_
    -- region 1 ref.go:65
    refine sw_region [(0, 0), (1, 0), (2, 0)] rfl rfl rfl ?_
    refine sd_vv rfl rfl rfl (vv_move rfl) ?_
    refine sd_vv rfl rfl rfl (vv_move rfl) ?_
    refine sd_vv rfl rfl rfl (vv_gtr (a := a2) (b := p1) rfl rfl) ?_
    refine sd_done ?_
    refine sw_cond rfl (fun c1 => ?_) (fun c1 => ?_)
    ·
      replace hm := ite_t (of_decide_eq_true c1) hm
      refine sw_skip ?_
      refine then_n ?_
      refine sw_block ?_
      -- region 2 ref.go:66
      refine sw_region [(0, 0), (1, 0), (2, 0)] rfl rfl rfl ?_
      refine sd_vv rfl rfl rfl (vv_move rfl) ?_
      have hb := bnd hm; clear hm; obtain ⟨x3, hx3, hm⟩ := hb
      refine sd_vv rfl rfl rfl (vv_quoI (a := a2) (b := 2) rfl rfl hx3) ?_
      refine sd_vv rfl rfl rfl (vv_assign rfl) ?_
      refine sd_nil ?_
      refine block_n ?_
      have K_2 : Kz [] w w1 := Kw1
      subst hrec1
      refine ⟨rfl, ⟨n1, x3⟩, ?_, ⟨hm, K_2⟩, Nat.lt_succ_self _⟩
      repeat' first | exact trivial | refine ⟨rfl, ?_⟩
    ·
      replace hm := ite_f (of_decide_eq_false c1) hm
      refine sw_exit ?_
      refine then_x ?_
      refine then_x ?_
      refine block_x ?_
      refine then_n ?_
      refine sw_seq ?_
      -- region 3 ref.go:68
      refine sw_region [(0, 0), (1, 0), (2, 0), (3, 0)] rfl rfl rfl ?_
      refine sd_vv rfl rfl rfl (vv_move rfl) ?_
      refine sd_vv rfl rfl rfl (vv_move rfl) ?_
      refine sd_vv rfl rfl rfl (vv_eql (a := a2) (b := p1) rfl rfl) ?_
      refine sd_vv rfl rfl rfl (vv_assign rfl) ?_
      refine sd_done ?_
      refine sw_ret ?_
      have X3 : Gr w w1 := (Gr.kz (Gr.refl w) Kw1)
      have hr := Option.some.inj hm
      subst hr
      refine ⟨_, _, rfl, res_1 rfl (rv_tmp rfl), ?_⟩
      exact ⟨rfl, X3⟩

set_option maxHeartbeats 2000000 in
theorem ref03_Level_w (p0 : Int)  (r : Int) (hm : ref03_Level p0 = some r) (w : World)   :
    Calls Try.prog 153 [.int .i64 p0].toArray w fun e w' => ∃ v, e = .returned v ∧ (v = .int .i64 r ∧ Gr w w') := by
  unfold ref03_Level at hm
  refine calls_of_sw (R := fun v w' => v = .int .i64 r ∧ Gr w w') 11 Try.func153 rfl rfl rfl ?_
  refine sw_seq ?_
  -- region 0 ref.go:54
  refine sw_region [(0, 0)] rfl rfl rfl ?_
  refine sd_vv rfl rfl rfl (vv_assign rfl) ?_
  refine sd_done ?_
  refine sw_seq ?_
  -- region 1 ref.go:55
  refine sw_region [(0, 0)] rfl rfl rfl ?_
  refine sd_vv rfl rfl rfl (vv_assign rfl) ?_
  refine sd_done ?_
  refine sw_seq ?_
  refine sw_block ?_
  refine sw_loopD (α := Nat × Int × Int) [0, 3, 4, 5, 6, 7, 8, 9] (fun ⟨n1, a3, a4⟩ => [(0, .int .i64 a3), (3, .int .i64 a4)]) (fun ⟨n1, a3, a4⟩ wr => (fixN (ref03_Level_L1) n1 (a3, a4) = some r) ∧ Kz [] w wr) (fun ⟨n1, a3, a4⟩ => n1) ⟨FUEL, p0, 0⟩ ?_ ?_ ?_
  · repeat' first | exact trivial | refine ⟨rfl, ?_⟩
  · exact ⟨hm, Kz.refl _ _⟩
  · clear hm; rintro ⟨n1, a3, a4⟩ w1 ⟨hm, Kw1⟩
    have z1 := Kw1.size
    have hb := fix_succ hm; clear hm; obtain ⟨n1, rfl, hm⟩ := hb
    generalize hrec1 : fixN (ref03_Level_L1) n1 = rec1 at hm
    unfold ref03_Level_L1 at hm
    try dsimp only at hm
    refine sw_seq ?_
    refine sw_seq ?_
    -- region 2 ref.go:56
    refine sw_region [(0, 0), (1, 0)] rfl rfl rfl ?_
    refine sd_vv rfl rfl rfl (vv_move rfl) ?_
    refine sd_vv rfl rfl rfl (vv_gtr (a := a3) (b := 1) rfl rfl) ?_
    refine sd_done ?_
    refine sw_cond rfl (fun c1 => ?_) (fun c1 => ?_)
    ·
      replace hm := ite_t (of_decide_eq_true c1) hm
      refine sw_skip ?_
      refine then_n ?_
      refine sw_block ?_
      refine sw_seq ?_
      -- region 3 ref.go:57
      refine sw_region [(0, 0), (1, 0), (2, 0)] rfl rfl rfl ?_
      refine sd_vv rfl rfl rfl (vv_move rfl) ?_
      have hb := bnd hm; clear hm; obtain ⟨x5, hx5, hm⟩ := hb
      refine sd_vv rfl rfl rfl (vv_quoI (a := a3) (b := 2) rfl rfl hx5) ?_
      refine sd_vv rfl rfl rfl (vv_assign rfl) ?_
      refine sd_done ?_
      -- region 4 ref.go:58
      refine sw_region [(0, 0), (1, 0), (2, 0)] rfl rfl rfl ?_
      refine sd_vv rfl rfl rfl (vv_move rfl) ?_
      refine sd_vv rfl rfl rfl (vv_add (k := .i64) (a := a4) (b := 1) rfl rfl) ?_
      refine sd_vv rfl rfl rfl (vv_assign rfl) ?_
      refine sd_nil ?_
      refine block_n ?_
      have K_2 : Kz [] w w1 := Kw1
      subst hrec1
      refine ⟨rfl, ⟨n1, x5, w64 (a4 + 1)⟩, ?_, ⟨hm, K_2⟩, Nat.lt_succ_self _⟩
      repeat' first | exact trivial | refine ⟨rfl, ?_⟩
    ·
      replace hm := ite_f (of_decide_eq_false c1) hm
      refine sw_exit ?_
      refine then_x ?_
      refine then_x ?_
      refine block_x ?_
      refine then_n ?_
      refine sw_seq ?_
      -- region 5 ref.go:60
      refine sw_region [(0, 0), (1, 0)] rfl rfl rfl ?_
      refine sd_vv rfl rfl rfl (vv_move rfl) ?_
      refine sd_vv rfl rfl rfl (vv_assign rfl) ?_
      refine sd_done ?_
      refine sw_ret ?_
      have X3 : Gr w w1 := (Gr.kz (Gr.refl w) Kw1)
      have hr := Option.some.inj hm
      subst hr
      refine ⟨_, _, rfl, res_1 rfl (rv_tmp rfl), ?_⟩
      exact ⟨rfl, X3⟩

set_option maxHeartbeats 2000000 in
theorem ref03_Stride_w (p0 : Int)  (r : Int) (hm : ref03_Stride p0 = some r) (w : World)   :
    Calls Try.prog 154 [.int .i64 p0].toArray w fun e w' => ∃ v, e = .returned v ∧ (v = .int .i64 r ∧ Gr w w') := by
  unfold ref03_Stride at hm
  refine calls_of_sw (R := fun v w' => v = .int .i64 r ∧ Gr w w') 12 Try.func154 rfl rfl rfl ?_
  refine sw_seq ?_
  -- region 0 ref.go:72
  refine sw_region [(0, 0)] rfl rfl rfl ?_
  refine sd_vv rfl rfl rfl (vv_assign rfl) ?_
  refine sd_done ?_
  refine sw_seq ?_
  -- region 1 ref.go:73
  refine sw_region [(0, 0)] rfl rfl rfl ?_
  refine sd_vv rfl rfl rfl (vv_assign rfl) ?_
  refine sd_done ?_
  refine sw_seq ?_
  refine sw_block ?_
  refine sw_loopD (α := Nat × Int) [3, 4, 5, 6, 7, 8, 9, 10] (fun ⟨n1, a2⟩ => [(3, .int .i64 a2)]) (fun ⟨n1, a2⟩ wr => (fixN (ref03_Stride_L1 p0) n1 a2 = some r) ∧ Kz [] w wr) (fun ⟨n1, a2⟩ => n1) ⟨FUEL, 1⟩ ?_ ?_ ?_
  · repeat' first | exact trivial | refine ⟨rfl, ?_⟩
  · exact ⟨hm, Kz.refl _ _⟩
  · clear hm; rintro ⟨n1, a2⟩ w1 ⟨hm, Kw1⟩
    have z1 := Kw1.size
    have hb := fix_succ hm; clear hm; obtain ⟨n1, rfl, hm⟩ := hb
    generalize hrec1 : fixN (ref03_Stride_L1 p0) n1 = rec1 at hm
    unfold ref03_Stride_L1 at hm
    try dsimp only at hm
    refine sw_seq ?_
    refine sw_seq ?_
    -- region 2 ref.go:74
    refine sw_region [(0, 0), (1, 0), (2, 0), (3, 0), (4, 0)] rfl rfl rfl ?_
    refine sd_vv rfl rfl rfl (vv_move rfl) ?_
    refine sd_vv rfl rfl rfl (vv_move rfl) ?_
    refine sd_vv rfl rfl rfl (vv_mul (k := .i64) (a := a2) (b := a2) rfl rfl) ?_
    refine sd_vv rfl rfl rfl (vv_move rfl) ?_
    refine sd_vv rfl rfl rfl (vv_lss (a := w64 (a2 * a2)) (b := p0) rfl rfl) ?_
    refine sd_done ?_
    refine sw_cond rfl (fun c1 => ?_) (fun c1 => ?_)
    ·
      replace hm := ite_t (of_decide_eq_true c1) hm
      refine sw_skip ?_
      refine then_n ?_
      refine sw_block ?_
      -- region 3 ref.go:75
      refine sw_region [(0, 0), (1, 0), (2, 0)] rfl rfl rfl ?_
      refine sd_vv rfl rfl rfl (vv_move rfl) ?_
      refine sd_vv rfl rfl rfl (vv_add (k := .i64) (a := a2) (b := 1) rfl rfl) ?_
      refine sd_vv rfl rfl rfl (vv_assign rfl) ?_
      refine sd_nil ?_
      refine block_n ?_
      have K_2 : Kz [] w w1 := Kw1
      subst hrec1
      refine ⟨rfl, ⟨n1, w64 (a2 + 1)⟩, ?_, ⟨hm, K_2⟩, Nat.lt_succ_self _⟩
      repeat' first | exact trivial | refine ⟨rfl, ?_⟩
    ·
      replace hm := ite_f (of_decide_eq_false c1) hm
      refine sw_exit ?_
      refine then_x ?_
      refine then_x ?_
      refine block_x ?_
      refine then_n ?_
      refine sw_seq ?_
      -- region 4 ref.go:77
      refine sw_region [(0, 0), (1, 0)] rfl rfl rfl ?_
      refine sd_vv rfl rfl rfl (vv_move rfl) ?_
      refine sd_vv rfl rfl rfl (vv_assign rfl) ?_
      refine sd_done ?_
      refine sw_ret ?_
      have X3 : Gr w w1 := (Gr.kz (Gr.refl w) Kw1)
      have hr := Option.some.inj hm
      subst hr
      refine ⟨_, _, rfl, res_1 rfl (rv_tmp rfl), ?_⟩
      exact ⟨rfl, X3⟩

set_option maxHeartbeats 2000000 in
theorem ref03_Special_w (p0 : Int) (p1 : Int)  (r : Bool) (hm : ref03_Special p0 p1 = some r) (w : World)   :
    Calls Try.prog 120 [.int .i64 p0, .int .i64 p1].toArray w fun e w' => ∃ v, e = .returned v ∧ (v = .bool r ∧ Gr w w') := by
  unfold ref03_Special at hm
  refine calls_of_sw (R := fun v w' => v = .bool r ∧ Gr w w') 11 Try.func120 rfl rfl rfl ?_
  refine sw_seq ?_
  -- region 0 ref.go:81
  refine sw_region [(0, 0)] rfl rfl rfl ?_
  refine sd_vv rfl rfl rfl (vv_assign rfl) ?_
  refine sd_done ?_
  refine sw_seq ?_
  -- region 1 ref.go:81
  refine sw_region [(0, 0), (1, 0), (2, 0), (3, 0), (4, 0), (5, 0), (6, 0)] rfl rfl rfl ?_
  refine sd_vv rfl rfl rfl (vv_move rfl) ?_
  have hb := bnd hm; clear hm; obtain ⟨x1, hx1, hm⟩ := hb
  refine sd_ev rfl rfl rfl (ev_call en_153 rfl (ref03_Level_w p1 _ hx1 _)) ?_
  rintro _ w1 ⟨rfl, Gw1⟩
  have z1 := Gw1.size
  refine sd_vv rfl rfl rfl (vv_move rfl) ?_
  have hb := bnd hm; clear hm; obtain ⟨x2, hx2, hm⟩ := hb
  refine sd_ev rfl rfl rfl (ev_call en_154 rfl (ref03_Stride_w p0 _ hx2 _)) ?_
  rintro _ w2 ⟨rfl, Gw2⟩
  have z2 := Gw2.size
  have hb := bnd hm; clear hm; obtain ⟨x3, hx3, hm⟩ := hb
  refine sd_vv rfl rfl rfl (vv_remI (a := x1) (b := x2) rfl rfl hx3) ?_
  refine sd_vv rfl rfl rfl (vv_eql (a := x3) (b := 0) rfl rfl) ?_
  refine sd_vv rfl rfl rfl (vv_assign rfl) ?_
  refine sd_done ?_
  refine sw_ret ?_
  have X3 : Gr w w2 := (Gr.trans (Gr.trans (Gr.refl w) Gw1) Gw2)
  have hr := Option.some.inj hm
  subst hr
  refine ⟨_, _, rfl, res_1 rfl (rv_tmp rfl), ?_⟩
  exact ⟨rfl, X3⟩

set_option maxHeartbeats 2000000 in
theorem ref03_Path_w (p0 : Int) (p1 : Int)  (r : List Int) (hm : ref03_Path p0 p1 = some r) (w : World)   :
    Calls Try.prog 108 [.int .i64 p0, .int .i64 p1].toArray w fun e w' => ∃ v, e = .returned v ∧ (∃ (ur0_s : Value) (zr0_s : Nat) (gr0_s : Nat), v = ur0_s ∧ Own w' zr0_s gr0_s 3 1 ur0_s (r.map ic) ∧ Hdn (zr0_s = 0 ∨ w.heap.size ≤ gr0_s) ∧ Gr w w') := by
  unfold ref03_Path at hm
  refine calls_of_sw (R := fun v w' => ∃ (ur0_s : Value) (zr0_s : Nat) (gr0_s : Nat), v = ur0_s ∧ Own w' zr0_s gr0_s 3 1 ur0_s (r.map ic) ∧ Hdn (zr0_s = 0 ∨ w.heap.size ≤ gr0_s) ∧ Gr w w') 19 Try.func108 rfl rfl rfl ?_
  refine sw_seq ?_
  -- region 0 ref.go:84
  refine sw_region [(0, 0)] rfl rfl rfl ?_
  refine sd_vv rfl rfl rfl (vv_assign rfl) ?_
  refine sd_done ?_
  refine sw_seq ?_
  -- region 1 ref.go:85
  refine sw_region [(0, 0)] rfl rfl rfl ?_
  refine sd_vv rfl rfl rfl (vv_assign rfl) ?_
  refine sd_done ?_
  refine sw_seq ?_
  refine sw_block ?_
  refine sw_loopD (α := Nat × Int × List Int × Value × Nat × Nat) [1, 5, 6, 7, 8, 9, 10, 11, 12, 13, 14] (fun ⟨n1, a4, a5, vy6, zy6, gy6⟩ => [(1, .int .i64 a4), (5, vy6)]) (fun ⟨n1, a4, a5, vy6, zy6, gy6⟩ wr => (fixN (ref03_Path_L1 p0) n1 (a4, a5) = some r) ∧ Own wr zy6 gy6 3 1 vy6 (a5.map ic) ∧ Hdn (zy6 = 0 ∨ w.heap.size ≤ gy6) ∧ Kz [] w wr) (fun ⟨n1, a4, a5, vy6, zy6, gy6⟩ => n1) ⟨FUEL, p1, [], (.slice none 0 0), 0, 0⟩ ?_ ?_ ?_
  · repeat' first | exact trivial | refine ⟨rfl, ?_⟩
  · exact ⟨hm, (own_nil _ 0 3 1), ⟨(.inl rfl)⟩, Kz.refl _ _⟩
  · clear hm; rintro ⟨n1, a4, a5, vy6, zy6, gy6⟩ w1 ⟨hm, Fw1_0, Fw1_1, Kw1⟩
    have z1 := Kw1.size
    have lt2 := Fw1_0.lth
    have hb := fix_succ hm; clear hm; obtain ⟨n1, rfl, hm⟩ := hb
    generalize hrec1 : fixN (ref03_Path_L1 p0) n1 = rec1 at hm
    unfold ref03_Path_L1 at hm
    try dsimp only at hm
    refine sw_seq ?_
    refine sw_seq ?_
    -- region 2 ref.go:86
    refine sw_region [(0, 0), (1, 0), (2, 0)] rfl rfl rfl ?_
    refine sd_vv rfl rfl rfl (vv_move rfl) ?_
    refine sd_vv rfl rfl rfl (vv_move rfl) ?_
    refine sd_vv rfl rfl rfl (vv_neq (a := a4) (b := p0) rfl rfl) ?_
    refine sd_done ?_
    refine sw_cond rfl (fun c1 => ?_) (fun c1 => ?_)
    ·
      replace hm := ite_t (of_decide_eq_true c1) hm
      refine sw_skip ?_
      refine then_n ?_
      refine sw_block ?_
      refine sw_seq ?_
      -- region 3 ref.go:87
      refine sw_region [(0, 0), (1, 0), (2, 0), (3, 0), (4, 0)] rfl rfl rfl ?_
      refine sd_vv rfl rfl rfl (vv_move rfl) ?_
      refine sd_ev rfl rfl rfl (ev_litT [a4] ic bsl_61_1 rfl rfl (ws_of rfl) rfl rfl rfl) ?_
      rintro vw2 w2 ⟨gw2, hbw2, Ow2, Gw2⟩
      have z3 := Gw2.size
      have lt4 := Ow2.lth
      refine sd_vv rfl rfl rfl (vv_move rfl) ?_
      have B5 := (Own.gr Fw1_0 Gw2)
      have hb := bnd hm; clear hm; obtain ⟨l7, hl7, hm⟩ := hb
      refine sd_ev rfl rfl rfl (ev_appT (l := [a4]) (m := a5) (c := ic) apt_61 rfl rfl Ow2 (Own.rd B5) hl7 (by decide)) ?_
      rintro vw3 w3 ⟨zw3, gw3, Ow3, Aw3, qw3, rw3⟩
      have z6 := Aw3.size
      refine sd_vv rfl rfl rfl (vv_assign rfl) ?_
      refine sd_done ?_
      -- region 4 ref.go:88
      refine sw_region [(0, 0), (1, 0), (2, 0)] rfl rfl rfl ?_
      refine sd_vv rfl rfl rfl (vv_move rfl) ?_
      have hb := bnd hm; clear hm; obtain ⟨x8, hx8, hm⟩ := hb
      refine sd_vv rfl rfl rfl (vv_quoI (a := a4) (b := 2) rfl rfl hx8) ?_
      refine sd_vv rfl rfl rfl (vv_assign rfl) ?_
      refine sd_nil ?_
      refine block_n ?_
      have K_7 : Kz [] w w3 := (Kz.ka (Kz.gr Kw1 Gw2) Aw3 (tk1 ((.inr tk0) : 1 = 0 ∨ w.heap.size ≤ gw2)))
      subst hrec1
      refine ⟨rfl, ⟨n1, x8, l7, vw3, zw3, gw3⟩, ?_, ⟨hm, Ow3, ⟨(pv_app (A := (fun x => w.heap.size ≤ x)) rw3 (.inr tk0))⟩, K_7⟩, Nat.lt_succ_self _⟩
      repeat' first | exact trivial | refine ⟨rfl, ?_⟩
    ·
      replace hm := ite_f (of_decide_eq_false c1) hm
      refine sw_exit ?_
      refine then_x ?_
      refine then_x ?_
      refine block_x ?_
      refine then_n ?_
      refine sw_seq ?_
      -- region 5 ref.go:90
      refine sw_region [(0, 0), (1, 0), (2, 0), (3, 0), (4, 0)] rfl rfl rfl ?_
      refine sd_vv rfl rfl rfl (vv_move rfl) ?_
      refine sd_ev rfl rfl rfl (ev_litT [p0] ic bsl_61_1 rfl rfl (ws_of rfl) rfl rfl rfl) ?_
      rintro vw4 w4 ⟨gw4, hbw4, Ow4, Gw4⟩
      have z8 := Gw4.size
      have lt9 := Ow4.lth
      refine sd_vv rfl rfl rfl (vv_move rfl) ?_
      have B10 := (Own.gr Fw1_0 Gw4)
      have hb := bnd hm; clear hm; obtain ⟨l9, hl9, hm⟩ := hb
      refine sd_ev rfl rfl rfl (ev_appT (l := [p0]) (m := a5) (c := ic) apt_61 rfl rfl Ow4 (Own.rd B10) hl9 (by decide)) ?_
      rintro vw5 w5 ⟨zw5, gw5, Ow5, Aw5, qw5, rw5⟩
      have z11 := Aw5.size
      refine sd_vv rfl rfl rfl (vv_assign rfl) ?_
      refine sd_done ?_
      refine sw_ret ?_
      have X12 : Gr w w5 := (Gr.ka (Gr.trans (Gr.kz (Gr.refl w) Kw1) Gw4) Aw5 (tk1 ((.inr tk0) : 1 = 0 ∨ w.heap.size ≤ gw4)))
      have hr := Option.some.inj hm
      subst hr
      refine ⟨_, _, rfl, res_1 rfl (rv_tmp rfl), ?_⟩
      exact ⟨vw5, zw5, gw5, rfl, Ow5, ⟨(pv_app (A := (fun x => w.heap.size ≤ x)) rw5 (.inr tk0))⟩, X12⟩

set_option maxHeartbeats 2000000 in
theorem ref03_between_w (p0 : Int) (p1 : Int) (p2 : Int)  (r : Int) (hm : ref03_between p0 p1 p2 = some r) (w : World)   :
    Calls Try.prog 121 [.int .i64 p0, .int .i64 p1, .int .i64 p2].toArray w fun e w' => ∃ v, e = .returned v ∧ (v = .int .i64 r ∧ Gr w w') := by
  unfold ref03_between at hm
  refine calls_of_sw (R := fun v w' => v = .int .i64 r ∧ Gr w w') 29 Try.func121 rfl rfl rfl ?_
  refine sw_seq ?_
  -- region 0 ref.go:94
  refine sw_region [(0, 0)] rfl rfl rfl ?_
  refine sd_vv rfl rfl rfl (vv_assign rfl) ?_
  refine sd_done ?_
  refine sw_seq ?_
  -- region 1 ref.go:95
  refine sw_region [(0, 0), (1, 0), (2, 0), (3, 0)] rfl rfl rfl ?_
  refine sd_vv rfl rfl rfl (vv_move rfl) ?_
  refine sd_vv rfl rfl rfl (vv_move rfl) ?_
  have hb := bnd hm; clear hm; obtain ⟨x1, hx1, hm⟩ := hb
  refine sd_ev rfl rfl rfl (ev_call en_108 rfl (ref03_Path_w p1 p2 _ hx1 _)) ?_
  rintro u1_r0_s w1 ⟨_, z1_r0_s, g1_r0_s, rfl, O1_r0_s, f1_r0_s, Gw1⟩
  have z1 := Gw1.size
  have lt2 := O1_r0_s.lth
  refine sd_vv rfl rfl rfl (vv_assign rfl) ?_
  refine sd_done ?_
  refine sw_seq ?_
  refine sw_seq ?_
  -- region 2 ref.go:96
  refine sw_region [(0, 0)] rfl rfl rfl ?_
  refine sd_vv rfl rfl rfl (vv_assign rfl) ?_
  refine sd_done ?_
  refine sw_block ?_
  have X3 : Gr w w1 := (Gr.trans (Gr.refl w) Gw1)
  refine sw_loopD (α := Nat × Int) [6, 8, 12, 13, 14, 15, 16, 17, 18, 19, 20, 21, 22, 23, 24, 25, 26, 27, 28] (fun ⟨n1, a3⟩ => [(6, .int .i64 0), (8, .int .i64 a3)]) (fun ⟨n1, a3⟩ wr => (fixN (ref03_between_L1 p0 x1) n1 a3 = some r) ∧ Kz [] w1 wr) (fun ⟨n1, a3⟩ => n1) ⟨FUEL, 1⟩ ?_ ?_ ?_
  · repeat' first | exact trivial | refine ⟨rfl, ?_⟩
  · exact ⟨hm, Kz.refl _ _⟩
  · clear hm; rintro ⟨n1, a3⟩ w2 ⟨hm, Kw2⟩
    have z4 := Kw2.size
    have hb := fix_succ hm; clear hm; obtain ⟨n1, rfl, hm⟩ := hb
    generalize hrec1 : fixN (ref03_between_L1 p0 x1) n1 = rec1 at hm
    unfold ref03_between_L1 at hm
    try dsimp only at hm
    refine sw_seq ?_
    refine sw_seq ?_
    -- region 3 ref.go:96
    refine sw_region [(0, 0), (1, 0), (2, 0), (3, 0), (4, 0)] rfl rfl rfl ?_
    refine sd_vv rfl rfl rfl (vv_move rfl) ?_
    refine sd_vv rfl rfl rfl (vv_move rfl) ?_
    have B5 := (Own.kz O1_r0_s Kw2)
    refine sd_vv rfl rfl rfl (vv_lenT (l := x1) (c := ic) Try.underlying61 rfl (Own.rd B5)) ?_
    refine sd_vv rfl rfl rfl (vv_sub (k := .i64) (a := (x1.length : Int)) (b := 1) rfl rfl) ?_
    refine sd_vv rfl rfl rfl (vv_lss (a := a3) (b := w64 ((x1.length : Int) - 1)) rfl rfl) ?_
    refine sd_done ?_
    refine sw_cond rfl (fun c1 => ?_) (fun c1 => ?_)
    ·
      replace hm := ite_t (of_decide_eq_true c1) hm
      refine sw_skip ?_
      refine then_n ?_
      refine sw_seq ?_
      refine sw_block ?_
      refine sw_seq ?_
      -- region 5 ref.go:97
      refine sw_region [(0, 0), (1, 0), (2, 0), (3, 0), (4, 0), (5, 0)] rfl rfl rfl ?_
      refine sd_vv rfl rfl rfl (vv_move rfl) ?_
      refine sd_vv rfl rfl rfl (vv_move rfl) ?_
      refine sd_vv rfl rfl rfl (vv_move rfl) ?_
      have hb := bnd hm; clear hm; obtain ⟨y4, hy4, hm⟩ := hb
      refine sd_vv rfl rfl rfl (vv_ixT (i := a3) Try.underlying61 (one_3).siz rfl (Own.rd B5) rfl hy4) ?_
      refine sd_vv rfl rfl rfl (vv_el1T (q := 0) (u := .int .i64 y4) one_3 rfl (Own.rd B5) hy4 (by first | rfl | omega) rfl) ?_
      have hb := bnd hm; clear hm; obtain ⟨x5, hx5, hm⟩ := hb
      refine sd_ev rfl rfl rfl (ev_call en_120 rfl (ref03_Special_w p0 y4 _ hx5 _)) ?_
      rintro _ w3 ⟨rfl, Gw3⟩
      have z6 := Gw3.size
      refine sd_done ?_
      refine sw_cond rfl (fun c2 => ?_) (fun c2 => ?_)
      ·
        replace hm := cnd_t c2 hm
        refine sw_seq ?_
        -- region 6 ref.go:98
        refine sw_region [(0, 0), (1, 0), (2, 0), (3, 0), (4, 0)] rfl rfl rfl ?_
        refine sd_vv rfl rfl rfl (vv_move rfl) ?_
        refine sd_vv rfl rfl rfl (vv_move rfl) ?_
        have hb := bnd hm; clear hm; obtain ⟨y6, hy6, hm⟩ := hb
        have B7 := (Own.gr B5 Gw3)
        refine sd_vv rfl rfl rfl (vv_ixT (i := a3) Try.underlying61 (one_3).siz rfl (Own.rd B7) rfl hy6) ?_
        refine sd_vv rfl rfl rfl (vv_el1T (q := 0) (u := .int .i64 y6) one_3 rfl (Own.rd B7) hy6 (by first | rfl | omega) rfl) ?_
        refine sd_vv rfl rfl rfl (vv_assign rfl) ?_
        refine sd_done ?_
        refine sw_ret ?_
        refine block_r ?_
        refine then_r ?_
        refine then_r ?_
        refine block_r ?_
        refine then_r ?_
        have X8 : Gr w w3 := (Gr.trans (Gr.kz X3 Kw2) Gw3)
        have hr := Option.some.inj hm
        subst hr
        refine ⟨_, _, rfl, res_1 rfl (rv_tmp rfl), ?_⟩
        exact ⟨rfl, X8⟩
      ·
        replace hm := cnd_f c2 hm
        refine sw_skip ?_
        refine block_n ?_
        refine then_n ?_
        -- region 4 ref.go:96
        refine sw_region [(0, 0), (1, 0), (2, 0)] rfl rfl rfl ?_
        refine sd_vv rfl rfl rfl (vv_move rfl) ?_
        refine sd_vv rfl rfl rfl (vv_add (k := .i64) (a := a3) (b := 1) rfl rfl) ?_
        refine sd_vv rfl rfl rfl (vv_assign rfl) ?_
        refine sd_nil ?_
        have K_9 : Kz [] w1 w3 := (Kz.gr Kw2 Gw3)
        subst hrec1
        refine ⟨rfl, ⟨n1, w64 (a3 + 1)⟩, ?_, ⟨hm, K_9⟩, Nat.lt_succ_self _⟩
        repeat' first | exact trivial | refine ⟨rfl, ?_⟩
    ·
      replace hm := ite_f (of_decide_eq_false c1) hm
      refine sw_exit ?_
      refine then_x ?_
      refine then_x ?_
      refine block_x ?_
      refine then_n ?_
      refine sw_seq ?_
      -- region 7 ref.go:101
      refine sw_region [(0, 0)] rfl rfl rfl ?_
      refine sd_vv rfl rfl rfl (vv_assign rfl) ?_
      refine sd_done ?_
      refine sw_ret ?_
      have X10 : Gr w w2 := (Gr.kz X3 Kw2)
      have hr := Option.some.inj hm
      subst hr
      refine ⟨_, _, rfl, res_1 rfl (rv_tmp rfl), ?_⟩
      exact ⟨rfl, X10⟩

set_option maxHeartbeats 2000000 in
theorem ref03_IsSubset_w (p0 : TScheme) (p1 : TSubset)  (r : Bool) (hm : ref03_IsSubset p0 p1 = some r) (w : World)   :
    Calls Try.prog 62 [.agg (TScheme.cs p0).toArray, .agg (TSubset.cs p1).toArray].toArray w fun e w' => ∃ v, e = .returned v ∧ (v = .bool r ∧ Gr w w') := by
  unfold ref03_IsSubset at hm
  refine calls_of_sw (R := fun v w' => v = .bool r ∧ Gr w w') 64 Try.func62 rfl rfl rfl ?_
  refine sw_seq ?_
  -- region 0 ref.go:105
  refine sw_region [(0, 0), (1, 0), (2, 0)] rfl rfl rfl ?_
  refine sd_ev rfl rfl rfl (ev_box (cs := TScheme.cs p0) rfl rfl) ?_
  rintro _ w1 ⟨b1, rfl, hbw1, Bw1, Gw1⟩
  have z1 := Gw1.size
  have lt2 := Bw1.lt
  refine sd_ev rfl rfl rfl (ev_box (cs := TSubset.cs p1) rfl rfl) ?_
  rintro _ w2 ⟨b2, rfl, hbw2, Bw2, Gw2⟩
  have z3 := Gw2.size
  have lt4 := Bw2.lt
  refine sd_vv rfl rfl rfl (vv_assign rfl) ?_
  refine sd_done ?_
  refine sw_seq ?_
  refine sw_seq ?_
  -- region 1 ref.go:106
  refine sw_region [(0, 0), (1, 0), (2, 0), (3, 0), (4, 0), (5, 0)] rfl rfl rfl ?_
  refine sd_vv rfl rfl rfl (vv_fieldAddr fa_45_1 rfl) ?_
  have B5 := (Bx.gr Bw1 Gw2)
  refine sd_vv rfl rfl rfl (vv_load1 (v := .int .i64 p0.Depth) one_3 rfl B5 rfl) ?_
  refine sd_vv rfl rfl rfl (vv_fieldAddr fa_47_0 rfl) ?_
  refine sd_vv rfl rfl rfl (vv_load1 (v := .int .i64 p1.Node) one_3 rfl Bw2 rfl) ?_
  have hb := bnd hm; clear hm; obtain ⟨x1, hx1, hm⟩ := hb
  refine sd_ev rfl rfl rfl (ev_call en_119 rfl (ref03_Node_w p0.Depth p1.Node _ hx1 _)) ?_
  rintro _ w3 ⟨rfl, Gw3⟩
  have z6 := Gw3.size
  refine sd_vv rfl rfl rfl (vv_not rfl) ?_
  refine sd_done ?_
  refine sw_cond rfl (fun c1 => ?_) (fun c1 => ?_)
  ·
    replace hm := cnd_t c1 hm
    refine sw_seq ?_
    -- region 2 ref.go:107
    refine sw_region [(0, 0)] rfl rfl rfl ?_
    refine sd_vv rfl rfl rfl (vv_assign rfl) ?_
    refine sd_done ?_
    refine sw_ret ?_
    refine then_r ?_
    have X7 : Gr w w3 := (Gr.trans (Gr.trans (Gr.trans (Gr.refl w) Gw1) Gw2) Gw3)
    have hr := Option.some.inj hm
    subst hr
    refine ⟨_, _, rfl, res_1 rfl (rv_tmp rfl), ?_⟩
    exact ⟨rfl, X7⟩
  ·
    replace hm := cnd_f c1 hm
    refine sw_skip ?_
    refine then_n ?_
    refine sw_seq ?_
    refine sw_seq ?_
    -- region 3 ref.go:109
    refine sw_region [(0, 0), (1, 0), (2, 0)] rfl rfl rfl ?_
    refine sd_vv rfl rfl rfl (vv_fieldAddr fa_45_0 rfl) ?_
    have B8 := (Bx.gr B5 Gw3)
    refine sd_vv rfl rfl rfl (vv_load1 (v := bv p0.Kind) one_5 rfl B8 rfl) ?_
    refine sd_vv rfl rfl rfl (vv_eqlB (p := p0.Kind) (q := 1#8) rfl rfl) ?_
    refine sd_done ?_
    refine sw_cond rfl (fun c2 => ?_) (fun c2 => ?_)
    ·
      replace hm := ite_t (of_decide_eq_true c2) hm
      refine sw_seq ?_
      -- region 4 ref.go:110
      refine sw_region [(0, 0), (1, 0), (2, 0), (3, 0)] rfl rfl rfl ?_
      refine sd_vv rfl rfl rfl (vv_fieldAddr fa_47_1 rfl) ?_
      have B9 := (Bx.gr Bw2 Gw3)
      refine sd_vv rfl rfl rfl (vv_load1 (v := .int .i64 p1.Minus) one_3 rfl B9 rfl) ?_
      refine sd_vv rfl rfl rfl (vv_eql (a := p1.Minus) (b := 0) rfl rfl) ?_
      refine sd_vv rfl rfl rfl (vv_assign rfl) ?_
      refine sd_done ?_
      refine sw_ret ?_
      refine then_r ?_
      have X10 : Gr w w3 := (Gr.trans (Gr.trans (Gr.trans (Gr.refl w) Gw1) Gw2) Gw3)
      have hr := Option.some.inj hm
      subst hr
      refine ⟨_, _, rfl, res_1 rfl (rv_tmp rfl), ?_⟩
      exact ⟨rfl, X10⟩
    ·
      replace hm := ite_f (of_decide_eq_false c2) hm
      refine sw_skip ?_
      refine then_n ?_
      refine sw_seq ?_
      refine sw_seq ?_
      -- region 5 ref.go:112
      refine sw_region [(0, 0), (1, 0), (2, 0)] rfl rfl rfl ?_
      refine sd_vv rfl rfl rfl (vv_fieldAddr fa_47_1 rfl) ?_
      have B11 := (Bx.gr Bw2 Gw3)
      refine sd_vv rfl rfl rfl (vv_load1 (v := .int .i64 p1.Minus) one_3 rfl B11 rfl) ?_
      refine sd_vv rfl rfl rfl (vv_eql (a := p1.Minus) (b := 0) rfl rfl) ?_
      refine sd_done ?_
      refine sw_cond rfl (fun c3 => ?_) (fun c3 => ?_)
      ·
        replace hm := ite_t (of_decide_eq_true c3) hm
        refine sw_seq ?_
        -- region 6 ref.go:113
        refine sw_region [(0, 0), (1, 0), (2, 0), (3, 0)] rfl rfl rfl ?_
        refine sd_vv rfl rfl rfl (vv_fieldAddr fa_47_0 rfl) ?_
        refine sd_vv rfl rfl rfl (vv_load1 (v := .int .i64 p1.Node) one_3 rfl B11 rfl) ?_
        refine sd_vv rfl rfl rfl (vv_eql (a := p1.Node) (b := 1) rfl rfl) ?_
        refine sd_vv rfl rfl rfl (vv_assign rfl) ?_
        refine sd_done ?_
        refine sw_ret ?_
        refine then_r ?_
        have X12 : Gr w w3 := (Gr.trans (Gr.trans (Gr.trans (Gr.refl w) Gw1) Gw2) Gw3)
        have hr := Option.some.inj hm
        subst hr
        refine ⟨_, _, rfl, res_1 rfl (rv_tmp rfl), ?_⟩
        exact ⟨rfl, X12⟩
      ·
        replace hm := ite_f (of_decide_eq_false c3) hm
        refine sw_skip ?_
        refine then_n ?_
        refine sw_seq ?_
        have X13 : Gr w w3 := (Gr.trans (Gr.trans (Gr.trans (Gr.refl w) Gw1) Gw2) Gw3)
        refine sw_joinD (β := Bool) [23, 24, 25, 26, 27, 28, 29, 30, 31, 32, 33, 34, 35, 36, 37, 38, 39, 40, 41, 42, 43] (fun a2 => [(43, .bool a2)]) (fun a2 wr => (ref03_IsSubset_J1 p0 p1 a2 = some r) ∧ Kz [] w3 wr) ?_ ?_
        · clear hm; rintro a2 w4 ⟨hm, Kw4⟩
          have z14 := Kw4.size
          unfold ref03_IsSubset_J1 at hm
          refine sw_cond rfl (fun c4 => ?_) (fun c4 => ?_)
          ·
            replace hm := cnd_t c4 hm
            refine sw_seq ?_
            -- region 8 ref.go:116
            refine sw_region [(0, 0)] rfl rfl rfl ?_
            refine sd_vv rfl rfl rfl (vv_assign rfl) ?_
            refine sd_done ?_
            refine sw_ret ?_
            refine then_r ?_
            have X15 : Gr w w4 := (Gr.kz X13 Kw4)
            have hr := Option.some.inj hm
            subst hr
            refine ⟨_, _, rfl, res_1 rfl (rv_tmp rfl), ?_⟩
            exact ⟨rfl, X15⟩
          ·
            replace hm := cnd_f c4 hm
            refine sw_skip ?_
            refine then_n ?_
            refine sw_seq ?_
            -- region 9 ref.go:118
            refine sw_region [(0, 0), (1, 0), (2, 0), (3, 0), (4, 0), (5, 0), (6, 0), (7, 0), (8, 0), (9, 0), (10, 0), (11, 0), (12, 0), (13, 0), (14, 0), (15, 0), (16, 0), (17, 0), (18, 0), (19, 0), (20, 0)] rfl rfl rfl ?_
            refine sd_vv rfl rfl rfl (vv_fieldAddr fa_45_0 rfl) ?_
            have B16 := (Bx.kz B8 Kw4)
            refine sd_vv rfl rfl rfl (vv_load1 (v := bv p0.Kind) one_5 rfl B16 rfl) ?_
            refine sd_vv rfl rfl rfl (vv_eqlB (p := p0.Kind) (q := 2#8) rfl rfl) ?_
            refine sd_split rfl rfl rfl (vv_move rfl) (fun c5 => ?_) (fun c5 => ?_)
            ·
              replace hm := ite_t (of_decide_eq_true c5) hm
              refine sd_skip rfl rfl rfl ?_
              refine sd_skip rfl rfl rfl ?_
              refine sd_skip rfl rfl rfl ?_
              refine sd_skip rfl rfl rfl ?_
              refine sd_skip rfl rfl rfl ?_
              refine sd_vv rfl rfl rfl (vv_pickT rfl rfl) ?_
              refine sd_vv rfl rfl rfl (vv_move rfl) ?_
              refine sd_skip rfl rfl rfl ?_
              refine sd_skip rfl rfl rfl ?_
              refine sd_skip rfl rfl rfl ?_
              refine sd_skip rfl rfl rfl ?_
              refine sd_skip rfl rfl rfl ?_
              refine sd_skip rfl rfl rfl ?_
              refine sd_skip rfl rfl rfl ?_
              refine sd_skip rfl rfl rfl ?_
              refine sd_vv rfl rfl rfl (vv_pickT rfl rfl) ?_
              refine sd_vv rfl rfl rfl (vv_assign rfl) ?_
              refine sd_done ?_
              refine sw_ret ?_
              have X17 : Gr w w4 := (Gr.kz X13 Kw4)
              have hr := Option.some.inj hm
              subst hr
              refine ⟨_, _, rfl, res_1 rfl (rv_tmp rfl), ?_⟩
              exact ⟨rfl, X17⟩
            ·
              replace hm := ite_f (of_decide_eq_false c5) hm
              refine sd_vv rfl rfl rfl (vv_fieldAddr fa_45_1 rfl) ?_
              refine sd_vv rfl rfl rfl (vv_load1 (v := .int .i64 p0.Depth) one_3 rfl B16 rfl) ?_
              refine sd_vv rfl rfl rfl (vv_fieldAddr fa_47_0 rfl) ?_
              have B18 := (Bx.kz B11 Kw4)
              refine sd_vv rfl rfl rfl (vv_load1 (v := .int .i64 p1.Node) one_3 rfl B18 rfl) ?_
              have hb := bnd hm; clear hm; obtain ⟨x3, hx3, hm⟩ := hb
              refine sd_ev rfl rfl rfl (ev_call en_120 rfl (ref03_Special_w p0.Depth p1.Node _ hx3 _)) ?_
              rintro _ w5 ⟨rfl, Gw5⟩
              have z19 := Gw5.size
              refine sd_vv rfl rfl rfl (vv_pickF rfl rfl) ?_
              refine sd_split rfl rfl rfl (vv_move rfl) (fun c6 => ?_) (fun c6 => ?_)
              ·
                replace hm := cnd_t c6 hm
                refine sd_skip rfl rfl rfl ?_
                refine sd_skip rfl rfl rfl ?_
                refine sd_skip rfl rfl rfl ?_
                refine sd_skip rfl rfl rfl ?_
                refine sd_skip rfl rfl rfl ?_
                refine sd_skip rfl rfl rfl ?_
                refine sd_skip rfl rfl rfl ?_
                refine sd_skip rfl rfl rfl ?_
                refine sd_vv rfl rfl rfl (vv_pickT rfl rfl) ?_
                refine sd_vv rfl rfl rfl (vv_assign rfl) ?_
                refine sd_done ?_
                refine sw_ret ?_
                have X20 : Gr w w5 := (Gr.trans (Gr.kz X13 Kw4) Gw5)
                have hr := Option.some.inj hm
                subst hr
                refine ⟨_, _, rfl, res_1 rfl (rv_tmp rfl), ?_⟩
                exact ⟨rfl, X20⟩
              ·
                replace hm := cnd_f c6 hm
                refine sd_vv rfl rfl rfl (vv_fieldAddr fa_45_1 rfl) ?_
                have B21 := (Bx.gr B16 Gw5)
                refine sd_vv rfl rfl rfl (vv_load1 (v := .int .i64 p0.Depth) one_3 rfl B21 rfl) ?_
                refine sd_vv rfl rfl rfl (vv_fieldAddr fa_47_0 rfl) ?_
                have B22 := (Bx.gr B18 Gw5)
                refine sd_vv rfl rfl rfl (vv_load1 (v := .int .i64 p1.Node) one_3 rfl B22 rfl) ?_
                refine sd_vv rfl rfl rfl (vv_fieldAddr fa_47_1 rfl) ?_
                refine sd_vv rfl rfl rfl (vv_load1 (v := .int .i64 p1.Minus) one_3 rfl B22 rfl) ?_
                have hb := bnd hm; clear hm; obtain ⟨x4, hx4, hm⟩ := hb
                refine sd_ev rfl rfl rfl (ev_call en_121 rfl (ref03_between_w p0.Depth p1.Node p1.Minus _ hx4 _)) ?_
                rintro _ w6 ⟨rfl, Gw6⟩
                have z23 := Gw6.size
                refine sd_vv rfl rfl rfl (vv_eql (a := x4) (b := 0) rfl rfl) ?_
                refine sd_vv rfl rfl rfl (vv_pickF rfl rfl) ?_
                refine sd_vv rfl rfl rfl (vv_assign rfl) ?_
                refine sd_done ?_
                refine sw_ret ?_
                have X24 : Gr w w6 := (Gr.trans (Gr.trans (Gr.kz X13 Kw4) Gw5) Gw6)
                have hr := Option.some.inj hm
                subst hr
                refine ⟨_, _, rfl, res_1 rfl (rv_tmp rfl), ?_⟩
                exact ⟨rfl, X24⟩
        ·
          -- region 7 ref.go:115
          refine sw_region [(0, 0), (1, 0), (2, 0), (3, 0), (4, 0), (5, 0), (6, 0), (7, 0), (8, 0), (9, 0), (10, 0), (11, 0), (12, 0), (13, 0), (14, 0), (15, 0), (16, 0), (17, 0), (18, 0), (19, 0), (20, 0)] rfl rfl rfl ?_
          refine sd_vv rfl rfl rfl (vv_fieldAddr fa_45_1 rfl) ?_
          refine sd_vv rfl rfl rfl (vv_load1 (v := .int .i64 p0.Depth) one_3 rfl B8 rfl) ?_
          refine sd_vv rfl rfl rfl (vv_fieldAddr fa_47_1 rfl) ?_
          refine sd_vv rfl rfl rfl (vv_load1 (v := .int .i64 p1.Minus) one_3 rfl B11 rfl) ?_
          have hb := bnd hm; clear hm; obtain ⟨x5, hx5, hm⟩ := hb
          refine sd_ev rfl rfl rfl (ev_call en_119 rfl (ref03_Node_w p0.Depth p1.Minus _ hx5 _)) ?_
          rintro _ w7 ⟨rfl, Gw7⟩
          have z25 := Gw7.size
          refine sd_vv rfl rfl rfl (vv_not rfl) ?_
          refine sd_split rfl rfl rfl (vv_move rfl) (fun c7 => ?_) (fun c7 => ?_)
          ·
            replace hm := cnd_t c7 hm
            refine sd_skip rfl rfl rfl ?_
            refine sd_skip rfl rfl rfl ?_
            refine sd_skip rfl rfl rfl ?_
            refine sd_skip rfl rfl rfl ?_
            refine sd_skip rfl rfl rfl ?_
            refine sd_vv rfl rfl rfl (vv_pickT rfl rfl) ?_
            refine sd_vv rfl rfl rfl (vv_move rfl) ?_
            refine sd_skip rfl rfl rfl ?_
            refine sd_skip rfl rfl rfl ?_
            refine sd_skip rfl rfl rfl ?_
            refine sd_skip rfl rfl rfl ?_
            refine sd_skip rfl rfl rfl ?_
            refine sd_skip rfl rfl rfl ?_
            refine sd_vv rfl rfl rfl (vv_pickT rfl rfl) ?_
            refine sd_nil ?_
            have K_26 : Kz [] w3 w7 := (Kz.gr (Kz.refl _ _) Gw7)
            refine ⟨rfl, true, ?_, hm, K_26⟩
            repeat' first | exact trivial | refine ⟨rfl, ?_⟩
          ·
            replace hm := cnd_f c7 hm
            refine sd_vv rfl rfl rfl (vv_fieldAddr fa_47_1 rfl) ?_
            have B27 := (Bx.gr B11 Gw7)
            refine sd_vv rfl rfl rfl (vv_load1 (v := .int .i64 p1.Minus) one_3 rfl B27 rfl) ?_
            refine sd_vv rfl rfl rfl (vv_fieldAddr fa_47_0 rfl) ?_
            refine sd_vv rfl rfl rfl (vv_load1 (v := .int .i64 p1.Node) one_3 rfl B27 rfl) ?_
            refine sd_vv rfl rfl rfl (vv_eql (a := p1.Minus) (b := p1.Node) rfl rfl) ?_
            refine sd_vv rfl rfl rfl (vv_pickF rfl rfl) ?_
            refine sd_split rfl rfl rfl (vv_move rfl) (fun c8 => ?_) (fun c8 => ?_)
            ·
              replace hm := ite_t (of_decide_eq_true c8) hm
              refine sd_skip rfl rfl rfl ?_
              refine sd_skip rfl rfl rfl ?_
              refine sd_skip rfl rfl rfl ?_
              refine sd_skip rfl rfl rfl ?_
              refine sd_skip rfl rfl rfl ?_
              refine sd_skip rfl rfl rfl ?_
              refine sd_vv rfl rfl rfl (vv_pickT rfl rfl) ?_
              refine sd_nil ?_
              have K_28 : Kz [] w3 w7 := (Kz.gr (Kz.refl _ _) Gw7)
              refine ⟨rfl, true, ?_, hm, K_28⟩
              repeat' first | exact trivial | refine ⟨rfl, ?_⟩
            ·
              replace hm := ite_f (of_decide_eq_false c8) hm
              refine sd_vv rfl rfl rfl (vv_fieldAddr fa_47_1 rfl) ?_
              refine sd_vv rfl rfl rfl (vv_load1 (v := .int .i64 p1.Minus) one_3 rfl B27 rfl) ?_
              refine sd_vv rfl rfl rfl (vv_fieldAddr fa_47_0 rfl) ?_
              refine sd_vv rfl rfl rfl (vv_load1 (v := .int .i64 p1.Node) one_3 rfl B27 rfl) ?_
              have hb := bnd hm; clear hm; obtain ⟨x6, hx6, hm⟩ := hb
              refine sd_ev rfl rfl rfl (ev_call en_60 rfl (ref03_Below_w p1.Minus p1.Node _ hx6 _)) ?_
              rintro _ w8 ⟨rfl, Gw8⟩
              have z29 := Gw8.size
              refine sd_vv rfl rfl rfl (vv_not rfl) ?_
              refine sd_vv rfl rfl rfl (vv_pickF rfl rfl) ?_
              refine sd_nil ?_
              have K_30 : Kz [] w3 w8 := (Kz.gr (Kz.gr (Kz.refl _ _) Gw7) Gw8)
              refine ⟨rfl, (!x6), ?_, hm, K_30⟩
              repeat' first | exact trivial | refine ⟨rfl, ?_⟩
end Go.Proofs.Ytecempahccgijaa.Mx
