/- Walks that follow mirrors: WSt. Printed by mx.py. -/
import Derived.Test.YtecempahccgijaaAl
import Derived.Test.YtecempahccgijaaWStM
set_option linter.unusedVariables false
set_option linter.unusedSimpArgs false
set_option maxRecDepth 100000
namespace Go.Proofs.Ytecempahccgijaa.Mx
open Go Go.RowKit Go.Sx


set_option maxHeartbeats 2000000 in
theorem cover_Storage_w (p0 : TScheme)  (r : Int × Int) (hm : cover_Storage p0 = some r) (w : World)   :
    Calls Try.prog 31 [.agg (TScheme.cs p0).toArray].toArray w fun e w' => ∃ v, e = .returned v ∧ (v = .tuple [.int .i64 r.1, .int .i64 r.2].toArray ∧ Gr w w') := by
  unfold cover_Storage at hm
  refine calls_of_sw (R := fun v w' => v = .tuple [.int .i64 r.1, .int .i64 r.2].toArray ∧ Gr w w') 22 Try.func31 rfl rfl rfl ?_
  refine sw_seq ?_
  -- region 0 cover.go:134
  refine sw_region [(0, 0), (1, 0), (2, 0)] rfl rfl rfl ?_
  refine sd_ev rfl rfl rfl (ev_box (cs := TScheme.cs p0) rfl rfl) ?_
  rintro _ w1 ⟨b1, rfl, hbw1, Bw1, Gw1⟩
  have z1 := Gw1.size
  have lt2 := Bw1.lt
  refine sd_vv rfl rfl rfl (vv_assign rfl) ?_
  refine sd_vv rfl rfl rfl (vv_assign rfl) ?_
  refine sd_done ?_
  refine sw_seq ?_
  -- region 1 cover.go:135
  refine sw_region [(0, 0), (1, 0), (2, 0), (3, 0), (4, 0), (5, 0), (6, 0), (7, 0)] rfl rfl rfl ?_
  refine sd_vv rfl rfl rfl (vv_loadW agg_45 rfl Bw1 rfl) ?_
  have hb := bnd hm; clear hm; obtain ⟨x1, hx1, hm⟩ := hb
  refine sd_ev rfl rfl rfl (ev_call en_74 rfl (cover_enter_w p0 ([] : List TSubset) _ _ _ _ _ hx1 _ (Own.rd (own_nil _ 0 47 2)))) ?_
  rintro _ w2 ⟨rfl, Gw2⟩
  have z3 := Gw2.size
  refine sd_vv rfl rfl rfl (vv_move rfl) ?_
  refine sd_vv rfl rfl rfl (vv_extract rfl rfl) ?_
  refine sd_vv rfl rfl rfl (vv_extract rfl rfl) ?_
  refine sd_ev rfl rfl rfl (ev_alloc (cs := Tcover_tree.cs (Tcover_tree.mk 0#8 0 0)) zv_134 rfl) ?_
  rintro _ w3 ⟨b3, rfl, hbw3, Bw3, Gw3⟩
  have z4 := Gw3.size
  have lt5 := Bw3.lt
  refine sd_ev rfl rfl rfl (ev_stM (cs' := Tcover_tree.cs x1.1) (vs := Tcover_tree.cs x1.1) (agg_134).siz rfl rfl rfl rfl rfl Bw3 rfl rfl) ?_
  rintro _ w4 ⟨Bw4, Mw4⟩
  have z6 := Mw4.size
  refine sd_vv rfl rfl rfl (vv_assign rfl) ?_
  refine sd_done ?_
  refine sw_seq ?_
  refine sw_seq ?_
  -- region 2 cover.go:136
  refine sw_region [(0, 0), (1, 0)] rfl rfl rfl ?_
  refine sd_vv rfl rfl rfl (vv_move rfl) ?_
  refine sd_vv rfl rfl rfl (vv_neq (a := x1.2) (b := 0) rfl rfl) ?_
  refine sd_done ?_
  refine sw_cond rfl (fun c1 => ?_) (fun c1 => ?_)
  ·
    replace hm := ite_t (of_decide_eq_true c1) hm
    refine sw_seq ?_
    -- region 3 cover.go:137
    refine sw_region [(0, 0), (1, 0), (2, 0)] rfl rfl rfl ?_
    refine sd_vv rfl rfl rfl (vv_move rfl) ?_
    refine sd_vv rfl rfl rfl (vv_assign rfl) ?_
    refine sd_vv rfl rfl rfl (vv_assign rfl) ?_
    refine sd_done ?_
    refine sw_ret ?_
    refine then_r ?_
    have X7 : Gr w w4 := (Gr.md (Gr.trans (Gr.trans (Gr.trans (Gr.refl w) Gw1) Gw2) Gw3) Mw4)
    have hr := Option.some.inj hm
    subst hr
    refine ⟨_, _, rfl, res_2 rfl (rv_tmp rfl) (rv_tmp rfl), ?_⟩
    exact ⟨rfl, X7⟩
  ·
    replace hm := ite_f (of_decide_eq_false c1) hm
    refine sw_skip ?_
    refine then_n ?_
    refine sw_seq ?_
    -- region 4 cover.go:139
    refine sw_region [(0, 0), (1, 0)] rfl rfl rfl ?_
    refine sd_ev rfl rfl rfl (ev_alloc (cs := [.int .i64 0]) zv_3 rfl) ?_
    rintro _ w5 ⟨b5, rfl, hbw5, Bw5, Gw5⟩
    have z8 := Gw5.size
    have lt9 := Bw5.lt
    refine sd_ev rfl rfl rfl (ev_st1 (cs' := [.int .i64 0]) (one_3).siz rfl rfl rfl Bw5 rfl rfl) ?_
    rintro _ w6 ⟨Bw6, Mw6⟩
    have z10 := Mw6.size
    refine sd_done ?_
    refine sw_seq ?_
    refine sw_seq ?_
    -- region 5 cover.go:140
    refine sw_region [(0, 0), (1, 0)] rfl rfl rfl ?_
    have B11 := (Bx.md (Bx.gr Bw4 Gw5) Mw6)
    refine sd_vv rfl rfl rfl (vv_loadW agg_134 rfl B11 rfl) ?_
    have hb := bnd hm; clear hm; obtain ⟨x2, hx2, hm⟩ := hb
    refine sd_ev rfl rfl rfl (ev_call en_82 rfl (cover_tree_labels_w x1.1 0 _ hx2 _)) ?_
    rintro _ w7 ⟨k7_c0_0, k7_c0_1, rfl, O7_c0_0, f7_c0_0, O7_c0_1, f7_c0_1, Gw7⟩
    have z12 := Gw7.size
    have lt13 := O7_c0_0.lt
    have lt14 := O7_c0_1.lt
    refine sd_done ?_
    refine sw_block ?_
    have hb := bnd hm; clear hm; obtain ⟨l3, hl3, hm⟩ := hb
    have X15 : Gr w w7 := (Gr.trans (Gr.md (Gr.trans (Gr.md (Gr.trans (Gr.trans (Gr.trans (Gr.refl w) Gw1) Gw2) Gw3) Mw4) Gw5) Mw6) Gw7)
    have B16 := (Bx.gr (Bx.md (Bx.gr (Bx.md (Bx.gr (Bx.gr Bw1 Gw2) Gw3) Mw4) Gw5) Mw6) Gw7)
    have B17 := (Bx.gr B11 Gw7)
    have B18 := (Bx.gr Bw6 Gw7)
    refine sw_rangeFunc (gf := 129) rfl en_129 (cover_tree_labels_1_it x2.1 x2.2 _ _ _ hl3 _ O7_c0_0 O7_c0_1) (by intro x hx; obtain ⟨a, _, rfl⟩ := List.mem_map.1 hx; rfl) rfl _ (fun _ _ _ _ => False) ([b5]) (stb_mk (α := Int) (fun a5 rk => itL cover_Storage_R1 cover_Storage_D1 (List.drop rk l3) a5 = some r) (fun a5 => ([b5])) (fun a5 W => Bx W b5 3 ([.int .i64 a5]) ∧ True) (by rintro a5 W ⟨F0, _⟩ b hb; have q0 := F0.lt; replace hb : b ∈ ([b5]) := hb; simp only [List.mem_cons, List.mem_append, mem_zf, List.not_mem_nil, or_false, false_or, not_or, ne_eq, List.nil_append, List.cons_append, true_and, and_true, false_and, and_false, not_true_eq_false, not_false_eq_true, or_true, true_or] at hb; omega) (by rintro a5 W W' ⟨F0, _⟩ E hs; replace hs : ∀ b ∈ ([b5]), W'.heap[b]? = W.heap[b]? := hs; exact ⟨(hs _ (by simp)).trans F0, trivial⟩)) (fun _ => stb_false) (by intro b hb; simp only [List.mem_cons, List.mem_append, mem_zf, List.not_mem_nil, or_false, false_or, not_or, ne_eq, List.nil_append, List.cons_append, true_and, and_true, false_and, and_false, not_true_eq_false, not_false_eq_true, or_true, true_or] at hb ⊢; omega) ⟨0, hm, rfl, B18, trivial⟩ ?_ ?_ ?_
    · rintro l rk x fp w8 hl hx _ Kw8 hF hln hlt
      clear hm
      obtain ⟨⟨e6, e7⟩, hxe, rfl⟩ := map_some hx
      have Zw8 : Kz [(1, b5)] w7 w8 := kz_of_kp Kw8 (by intro k hk; simp only [Nin, and_true, List.mem_cons, List.mem_append, mem_zf, List.not_mem_nil, or_false, false_or, not_or, ne_eq, List.nil_append, List.cons_append, true_and, and_true, false_and, and_false, not_true_eq_false, not_false_eq_true, or_true, true_or] at hk ⊢; omega)
      have z19 := Kw8.size
      refine sw_skip ?_
      refine ⟨rfl, (Gr.refl _), ?_⟩
      rintro w9 Mw9 ⟨a5, hm, rfl, Fw9_0, -⟩
      have z20 := Mw9.size
      have lt21 := Fw9_0.lt
      replace hm := itL_at hm hxe
      generalize hnx1 : itL cover_Storage_R1 cover_Storage_D1 (List.drop (rk + 1) l3) = nx1 at hm
      unfold cover_Storage_R1 at hm
      try dsimp only at hm
      refine sw_block ?_
      -- region 6 cover.go:141
      refine sw_region [(0, 0), (1, 0), (2, 0)] rfl rfl rfl ?_
      refine sd_vv rfl rfl rfl (vv_load1 (v := .int .i64 a5) one_3 rfl Fw9_0 rfl) ?_
      refine sd_vv rfl rfl rfl (vv_add (k := .i64) (a := a5) (b := 1) rfl rfl) ?_
      refine sd_ev rfl rfl rfl (ev_st1 (cs' := [.int .i64 (w64 (a5 + 1))]) (one_3).siz rfl rfl rfl Fw9_0 rfl rfl) ?_
      rintro _ w10 ⟨Bw10, Mw10⟩
      have z22 := Mw10.size
      refine sd_nil ?_
      refine block_n ?_
      have K_23 : Kz [(1, b5)] w9 w10 := (Kz.md (Kz.refl _ _) Mw10)
      have Kq23 : Kp ([b5]) w9 w10 := kp_of_kz K_23 (by intro k hk; simp only [Nin, and_true, List.mem_cons, List.mem_append, mem_zf, List.not_mem_nil, or_false, false_or, not_or, ne_eq, List.nil_append, List.cons_append, true_and, and_true, false_and, and_false, not_true_eq_false, not_false_eq_true, or_true, true_or] at hk ⊢; omega)
      subst hnx1
      exact ⟨Kq23, ([b5]), (by intro c hc; simp only [List.mem_cons, List.mem_append, mem_zf, List.not_mem_nil, or_false, false_or, not_or, ne_eq, List.nil_append, List.cons_append, true_and, and_true, false_and, and_false, not_true_eq_false, not_false_eq_true, or_true, true_or] at hc ⊢; omega), ⟨w64 (a5 + 1), hm, rfl, Bw10, trivial⟩⟩
    · clear hm; rintro Dw11 fp w11 hDw11 Dfw11 nw11 ⟨a5, hm, rfl, Fw11_0, -⟩ Kw11
      replace hm := itL_end hm
      have Zw11 : Kz [(1, b5)] w7 w11 := kz_of_kp Kw11 (by intro k hk; simp only [Nin, and_true, List.mem_cons, List.mem_append, mem_zf, List.not_mem_nil, or_false, false_or, not_or, ne_eq, List.nil_append, List.cons_append, true_and, and_true, false_and, and_false, not_true_eq_false, not_false_eq_true, or_true, true_or] at hk ⊢; omega)
      have z24 := Kw11.size
      have lt25 := Df.lt (w := w11) Dfw11
      simp only [List.mem_cons, List.mem_append, mem_zf, List.not_mem_nil, or_false, false_or, not_or, ne_eq, List.nil_append, List.cons_append, true_and, and_true, false_and, and_false, not_true_eq_false, not_false_eq_true, or_true, true_or, not_and] at nw11
      have lt26 := Fw11_0.lt
      unfold cover_Storage_D1 at hm
      try dsimp only at hm
      refine block_n ?_
      refine then_n ?_
      refine sw_seq ?_
      -- region 7 cover.go:143
      refine sw_region [(0, 0), (1, 0), (2, 0)] rfl rfl rfl ?_
      refine sd_vv rfl rfl rfl (vv_load1 (v := .int .i64 a5) one_3 rfl Fw11_0 rfl) ?_
      refine sd_vv rfl rfl rfl (vv_assign rfl) ?_
      refine sd_vv rfl rfl rfl (vv_assign rfl) ?_
      refine sd_done ?_
      refine sw_ret ?_
      have DL27 := Dfw11
      have L27 := Md.put (w := w11) Dw11 (.deferred none)
      have zL27 := L27.size
      have X28 : Gr w (w11.putObj Dw11 (.deferred none)) := (Gr.md (Gr.kz X15 Zw11) L27)
      have hr := Option.some.inj hm
      subst hr
      refine ⟨_, _, ⟨Dw11, rfl, DL27, rfl⟩, res_2 rfl (rv_tmp rfl) (rv_tmp rfl), ?_⟩
      exact ⟨rfl, X28⟩
    · rintro _ _ _ _ _ _ _ _ _ h _
      exact h.elim

set_option maxHeartbeats 2000000 in
theorem ref03_Below_w (p0 : Int) (p1 : Int)  (r : Bool) (hm : ref03_Below p0 p1 = some r) (w : World)   :
    Calls Try.prog 60 [.int .i64 p0, .int .i64 p1].toArray w fun e w' => ∃ v, e = .returned v ∧ (v = .bool r ∧ Gr w w') := by
  unfold ref03_Below at hm
  refine calls_of_sw (R := fun v w' => v = .bool r ∧ Gr w w') 13 Try.func60 rfl rfl rfl ?_
  refine sw_seq ?_
  -- region 0 ref.go:64
  refine sw_region [(0, 0)] rfl rfl rfl ?_
  refine sd_vv rfl rfl rfl (vv_assign rfl) ?_
  refine sd_done ?_
  refine sw_seq ?_
  refine sw_block ?_
  refine sw_loopD (α := Nat × Int) [0, 5, 6, 7, 8, 9] (fun ⟨n1, a2⟩ => [(0, .int .i64 a2)]) (fun ⟨n1, a2⟩ wr => (fixN (ref03_Below_L1 p1) n1 a2 = some r) ∧ Kz [] w wr) (fun ⟨n1, a2⟩ => n1) ⟨FUEL, p0⟩ ?_ ?_ ?_
  · repeat' first | exact trivial | refine ⟨rfl, ?_⟩
  · exact ⟨hm, Kz.refl _ _⟩
  · clear hm; rintro ⟨n1, a2⟩ w1 ⟨hm, Kw1⟩
    have z1 := Kw1.size
    have hb := fix_succ hm; clear hm; obtain ⟨n1, rfl, hm⟩ := hb
    generalize hrec1 : fixN (ref03_Below_L1 p1) n1 = rec1 at hm
    unfold ref03_Below_L1 at hm
    try dsimp only at hm
    refine sw_seq ?_
    refine sw_seq ?_
    -- region 1 ref.go:65
    refine sw_region [(0, 0), (1, 0), (2, 0)] rfl rfl rfl ?_
    refine sd_vv rfl rfl rfl (vv_move rfl) ?_
    refine sd_vv rfl rfl rfl (vv_move rfl) ?_
    refine sd_vv rfl rfl rfl (vv_gtr (a := a2) (b := p1) rfl rfl) ?_
    refine sd_done ?_
    refine sw_cond rfl (fun c1 => ?_) (fun c1 => ?_)
    ·
      replace hm := ite_t (of_decide_eq_true c1) hm
      refine sw_skip ?_
      refine then_n ?_
      refine sw_block ?_
      -- region 2 ref.go:66
      refine sw_region [(0, 0), (1, 0), (2, 0)] rfl rfl rfl ?_
      refine sd_vv rfl rfl rfl (vv_move rfl) ?_
      have hb := bnd hm; clear hm; obtain ⟨x3, hx3, hm⟩ := hb
      refine sd_vv rfl rfl rfl (vv_quoI (a := a2) (b := 2) rfl rfl hx3) ?_
      refine sd_vv rfl rfl rfl (vv_assign rfl) ?_
      refine sd_nil ?_
      refine block_n ?_
      have K_2 : Kz [] w w1 := Kw1
      subst hrec1
      refine ⟨rfl, ⟨n1, x3⟩, ?_, ⟨hm, K_2⟩, Nat.lt_succ_self _⟩
      repeat' first | exact trivial | refine ⟨rfl, ?_⟩
    ·
      replace hm := ite_f (of_decide_eq_false c1) hm
      refine sw_exit ?_
      refine then_x ?_
      refine then_x ?_
      refine block_x ?_
      refine then_n ?_
      refine sw_seq ?_
      -- region 3 ref.go:68
      refine sw_region [(0, 0), (1, 0), (2, 0), (3, 0)] rfl rfl rfl ?_
      refine sd_vv rfl rfl rfl (vv_move rfl) ?_
      refine sd_vv rfl rfl rfl (vv_move rfl) ?_
      refine sd_vv rfl rfl rfl (vv_eql (a := a2) (b := p1) rfl rfl) ?_
      refine sd_vv rfl rfl rfl (vv_assign rfl) ?_
      refine sd_done ?_
      refine sw_ret ?_
      have X3 : Gr w w1 := (Gr.kz (Gr.refl w) Kw1)
      have hr := Option.some.inj hm
      subst hr
      refine ⟨_, _, rfl, res_1 rfl (rv_tmp rfl), ?_⟩
      exact ⟨rfl, X3⟩
end Go.Proofs.Ytecempahccgijaa.Mx
