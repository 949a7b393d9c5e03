/- Walks that follow mirrors: Xl. Printed by mx.py. -/
import Derived.Test.YtkdghilkigojgaaXp
import Derived.Test.YtkdghilkigojgaaXlM
set_option linter.unusedVariables false
set_option linter.unusedSimpArgs false
set_option maxRecDepth 100000
namespace Go.Proofs.Ytkdghilkigojgaa.Mx
open Go Go.RowKit Go.Sx
theorem zv_28 : ZV Try.prog 28 (.agg [.int .u8 0, .int .i64 0, .int .i64 0, .int .u64 0, .int .u64 0, .int .u64 0].toArray) := fun _ => by kernel_rfl
theorem zv_26 : ZV Try.prog 26 (.agg [.int .u64 0, .int .u64 0, .int .u64 0].toArray) := fun _ => by kernel_rfl
theorem bs_26 : BS Try.prog 26 (fun i => [(0, 1), (1, 1), (2, 1)][i]?) [.int .u64 0, .int .u64 0, .int .u64 0] := bs_mk Try.underlying26 zv_26 ⟨rfl, (one_24).siz, rfl, (one_24).siz, rfl, (one_24).siz, trivial⟩
theorem bs_28 : BS Try.prog 28 (fun i => [(0, 1), (1, 1), (2, 1), (3, 3)][i]?) [.int .u8 0, .int .i64 0, .int .i64 0, .int .u64 0, .int .u64 0, .int .u64 0] := bs_mk Try.underlying28 zv_28 ⟨rfl, (one_5).siz, rfl, (one_3).siz, rfl, (one_3).siz, rfl, (agg_26).siz, trivial⟩
theorem en_48 : En Try.prog 48 := fun _ _ => by kernel_rfl
theorem bsl_60_3 : BSl Try.prog 60 3 24 1 [.int .u64 0, .int .u64 0, .int .u64 0] := bsl_mk Try.underlying60 (one_24).siz zv_24 rfl rfl (by kernel_rfl)
theorem en_34 : En Try.prog 34 := fun _ _ => by kernel_rfl
theorem bsl_43_3 : BSl Try.prog 43 3 31 2 [.int .u64 0, .int .u64 0, .int .u64 0, .int .u64 0, .int .u64 0, .int .u64 0] := bsl_mk Try.underlying43 (agg_31).siz zv_31 rfl rfl (by kernel_rfl)
theorem en_36 : En Try.prog 36 := fun _ _ => by kernel_rfl
theorem en_32 : En Try.prog 32 := fun _ _ => by kernel_rfl
theorem en_31 : En Try.prog 31 := fun _ _ => by kernel_rfl
theorem en_56 : En Try.prog 56 := fun _ _ => by kernel_rfl
theorem ba_23 : BA Try.prog 23 1 [.int .u8 0, .int .u8 0, .int .u8 0, .int .u8 0, .int .u8 0, .int .u8 0, .int .u8 0, .int .u8 0, .int .u8 0, .int .u8 0, .int .u8 0, .int .u8 0, .int .u8 0, .int .u8 0, .int .u8 0, .int .u8 0] := ⟨_, _, Try.underlying23, (one_5).siz, zv_23⟩
theorem bsl_41_1 : BSl Try.prog 41 1 3 1 [.int .i64 0] := bsl_mk Try.underlying41 (one_3).siz zv_3 rfl rfl (by kernel_rfl)
theorem en_21 : En Try.prog 21 := fun _ _ => by kernel_rfl
theorem en_18 : En Try.prog 18 := fun _ _ => by kernel_rfl
theorem en_27 : En Try.prog 27 := fun _ _ => by kernel_rfl
theorem en_50 : En Try.prog 50 := fun _ _ => by kernel_rfl
theorem en_39 : En Try.prog 39 := fun _ _ => by kernel_rfl
theorem en_44 : En Try.prog 44 := fun _ _ => by kernel_rfl
theorem en_46 : En Try.prog 46 := fun _ _ => by kernel_rfl
theorem en_51 : En Try.prog 51 := fun _ _ => by kernel_rfl
theorem bsl_41_2 : BSl Try.prog 41 2 3 1 [.int .i64 0, .int .i64 0] := bsl_mk Try.underlying41 (one_3).siz zv_3 rfl rfl (by kernel_rfl)

set_option maxHeartbeats 2000000 in
theorem law04_small_w   (r : TScheme) (hm : law04_small = some r) (w : World)   :
    Calls Try.prog 48 [].toArray w fun e w' => ∃ v, e = .returned v ∧ (v = .agg (TScheme.cs r).toArray ∧ Gr w w') := by
  unfold law04_small at hm
  refine calls_of_sw (R := fun v w' => v = .agg (TScheme.cs r).toArray ∧ Gr w w') 3 Try.func48 rfl rfl rfl ?_
  refine sw_seq ?_
  -- region 0 outright.go:13
  refine sw_region [(0, 0)] rfl rfl rfl ?_
  refine sd_ev rfl rfl rfl (ev_alloc (cs := TScheme.cs (TScheme.mk 0#8 0 0 (TGroup.mk 0#64 0#64 0#64))) zv_28 rfl) ?_
  rintro _ w1 ⟨b1, rfl, hbw1, Bw1, Gw1⟩
  have z1 := Gw1.size
  have lt2 := Bw1.lt
  refine sd_done ?_
  refine sw_seq ?_
  -- region 1 outright.go:14
  refine sw_region [(0, 0), (1, 0), (2, 0)] rfl rfl rfl ?_
  refine sd_vv rfl rfl rfl (vv_build (cs := TGroup.cs (TGroup.mk 23#64 11#64 2#64)) bs_26 rfl rfl) ?_
  refine sd_vv rfl rfl rfl (vv_build (cs := TScheme.cs (TScheme.mk 4#8 2 2 (TGroup.mk 23#64 11#64 2#64))) bs_28 rfl (fill_M rfl rfl rfl (fill_M rfl rfl rfl (fill_M rfl rfl rfl (fill_M rfl rfl rfl rfl))))) ?_
  refine sd_ev rfl rfl rfl (ev_stM (cs' := TScheme.cs (TScheme.mk 4#8 2 2 (TGroup.mk 23#64 11#64 2#64))) (vs := TScheme.cs (TScheme.mk 4#8 2 2 (TGroup.mk 23#64 11#64 2#64))) (agg_28).siz rfl rfl rfl rfl rfl Bw1 rfl rfl) ?_
  rintro _ w2 ⟨Bw2, Mw2⟩
  have z3 := Mw2.size
  refine sd_done ?_
  refine sw_ret ?_
  have X4 : Gr w w2 := (Gr.md (Gr.trans (Gr.refl w) Gw1) Mw2)
  have hr := Option.some.inj hm
  subst hr
  refine ⟨_, _, rfl, res_1 rfl (rv_cellW agg_28 rfl Bw2 rfl), ?_⟩
  exact ⟨rfl, X4⟩

set_option maxHeartbeats 2000000 in
theorem law04_words_w (p0 : List (BitVec 64)) (p1 : Int) (p2 : List (BitVec 64)) (vp0 : Value) (zp0 gp0 op0 : Nat) (vp2 : Value) (zp2 gp2 op2 : Nat) (r : Bool) (hm : law04_words p0 p1 p2 = some r) (w : World) (hp0 : Rd w zp0 gp0 op0 1 vp0 (p0.map uwc)) (hp2 : Rd w zp2 gp2 op2 1 vp2 (p2.map uwc))  :
    Calls Try.prog 56 [vp0, .int .i64 p1, vp2].toArray w fun e w' => ∃ v, e = .returned v ∧ (v = .bool r ∧ Gr w w') := by
  have lt1 := hp0.lth
  have lt2 := hp2.lth
  unfold law04_words at hm
  refine calls_of_sw (R := fun v w' => v = .bool r ∧ Gr w w') 14 Try.func56 rfl rfl rfl ?_
  refine sw_seq ?_
  -- region 0 outright.go:18
  refine sw_region [(0, 0)] rfl rfl rfl ?_
  refine sd_vv rfl rfl rfl (vv_assign rfl) ?_
  refine sd_done ?_
  refine sw_seq ?_
  -- region 1 outright.go:19
  refine sw_region [(0, 0), (1, 0), (2, 0), (3, 0), (4, 0), (5, 0), (6, 0), (7, 0)] rfl rfl rfl ?_
  refine sd_vv rfl rfl rfl (vv_move rfl) ?_
  refine sd_vv rfl rfl rfl (vv_eql (a := p1) (b := 0) rfl rfl) ?_
  refine sd_split rfl rfl rfl (vv_move rfl) (fun c1 => ?_) (fun c1 => ?_)
  ·
    replace hm := ite_t (of_decide_eq_true c1) hm
    refine sd_vv rfl rfl rfl (vv_move rfl) ?_
    refine sd_vv rfl rfl rfl (vv_move rfl) ?_
    have hb := bnd hm; clear hm; obtain ⟨x1, hx1, hm⟩ := hb
    refine sd_ev rfl rfl rfl (ev_call en_31 rfl (ref04_SameWords_w p0 p2 _ _ _ _ _ _ _ _ _ hx1 _ hp0 hp2)) ?_
    rintro _ w1 ⟨rfl, Gw1⟩
    have z3 := Gw1.size
    refine sd_vv rfl rfl rfl (vv_pickT rfl rfl) ?_
    refine sd_vv rfl rfl rfl (vv_assign rfl) ?_
    refine sd_done ?_
    refine sw_ret ?_
    have X4 : Gr w w1 := (Gr.trans (Gr.refl w) Gw1)
    have hr := Option.some.inj hm
    subst hr
    refine ⟨_, _, rfl, res_1 rfl (rv_tmp rfl), ?_⟩
    exact ⟨rfl, X4⟩
  ·
    replace hm := ite_f (of_decide_eq_false c1) hm
    refine sd_skip rfl rfl rfl ?_
    refine sd_skip rfl rfl rfl ?_
    refine sd_skip rfl rfl rfl ?_
    refine sd_vv rfl rfl rfl (vv_pickF rfl rfl) ?_
    refine sd_vv rfl rfl rfl (vv_assign rfl) ?_
    refine sd_done ?_
    refine sw_ret ?_
    have hr := Option.some.inj hm
    subst hr
    refine ⟨_, _, rfl, res_1 rfl (rv_tmp rfl), ?_⟩
    exact ⟨rfl, (Gr.refl w)⟩

set_option maxHeartbeats 2000000 in
theorem law04_points_w (p0 : THeader) (p1 : Int) (p2 : List (BitVec 64)) (vp0_0 : Value) (zp0_0 gp0_0 op0_0 : Nat) (vp0_2 : Value) (zp0_2 gp0_2 op0_2 : Nat) (vp2 : Value) (zp2 gp2 op2 : Nat) (r : Bool) (hm : law04_points p0 p1 p2 = some r) (w : World) (hp0_0 : Rd w zp0_0 gp0_0 op0_0 18 vp0_0 (p0.Items.map TItem.cs)) (hp0_2 : Rd w zp0_2 gp0_2 op0_2 2 vp0_2 (p0.Points.map TPoint.cs)) (hp2 : Rd w zp2 gp2 op2 1 vp2 (p2.map uwc))  :
    Calls Try.prog 50 [.agg (THeader.cs p0 vp0_0 vp0_2).toArray, .int .i64 p1, vp2].toArray w fun e w' => ∃ v, e = .returned v ∧ (v = .bool r ∧ Gr w w') := by
  have lt1 := hp0_0.lth
  have lt2 := hp0_2.lth
  have lt3 := hp2.lth
  unfold law04_points at hm
  refine calls_of_sw (R := fun v w' => v = .bool r ∧ Gr w w') 35 Try.func50 rfl rfl rfl ?_
  refine sw_seq ?_
  -- region 0 outright.go:23
  refine sw_region [(0, 0), (1, 0)] rfl rfl rfl ?_
  refine sd_ev rfl rfl rfl (ev_box (cs := THeader.cs p0 vp0_0 vp0_2) rfl rfl) ?_
  rintro _ w1 ⟨b1, rfl, hbw1, Bw1, Gw1⟩
  have z4 := Gw1.size
  have lt5 := Bw1.lt
  refine sd_vv rfl rfl rfl (vv_assign rfl) ?_
  refine sd_done ?_
  refine sw_seq ?_
  have X6 : Gr w w1 := (Gr.trans (Gr.refl w) Gw1)
  refine sw_joinD (β := Bool) [8, 9, 10, 11, 12, 13, 14, 15, 16, 17] (fun a1 => [(17, .bool a1)]) (fun a1 wr => (law04_points_J1 p0 p2 a1 = some r) ∧ Kz [] w1 wr) ?_ ?_
  · clear hm; rintro a1 w2 ⟨hm, Kw2⟩
    have z7 := Kw2.size
    unfold law04_points_J1 at hm
    refine sw_cond rfl (fun c1 => ?_) (fun c1 => ?_)
    ·
      replace hm := cnd_t c1 hm
      refine sw_seq ?_
      -- region 2 outright.go:25
      refine sw_region [(0, 0)] rfl rfl rfl ?_
      refine sd_vv rfl rfl rfl (vv_assign rfl) ?_
      refine sd_done ?_
      refine sw_ret ?_
      refine then_r ?_
      have X8 : Gr w w2 := (Gr.kz X6 Kw2)
      have hr := Option.some.inj hm
      subst hr
      refine ⟨_, _, rfl, res_1 rfl (rv_tmp rfl), ?_⟩
      exact ⟨rfl, X8⟩
    ·
      replace hm := cnd_f c1 hm
      refine sw_skip ?_
      refine then_n ?_
      refine sw_seq ?_
      refine sw_seq ?_
      -- region 3 outright.go:27
      refine sw_region [(0, 0)] rfl rfl rfl ?_
      refine sd_vv rfl rfl rfl (vv_assign rfl) ?_
      refine sd_done ?_
      refine sw_block ?_
      have X9 : Gr w w2 := (Gr.kz X6 Kw2)
      have B10 := (Rd.kz (Rd.gr hp0_0 Gw1) Kw2)
      have B11 := (Rd.kz (Rd.gr hp0_2 Gw1) Kw2)
      have B12 := (Rd.kz (Rd.gr hp2 Gw1) Kw2)
      refine sw_loopD (α := Nat × Int) [6, 7, 18, 19, 20, 21, 22, 23, 24, 25, 26, 27, 28, 29, 30, 31, 32, 33, 34] (fun ⟨n2, a3⟩ => [(6, .bool false), (7, .int .i64 a3)]) (fun ⟨n2, a3⟩ wr => (fixN (law04_points_L2 p0 p2) n2 a3 = some r) ∧ Kz [] w2 wr) (fun ⟨n2, a3⟩ => n2) ⟨FUEL, 0⟩ ?_ ?_ ?_
      · repeat' first | exact trivial | refine ⟨rfl, ?_⟩
      · exact ⟨hm, Kz.refl _ _⟩
      · clear hm; rintro ⟨n2, a3⟩ w3 ⟨hm, Kw3⟩
        have z13 := Kw3.size
        have hb := fix_succ hm; clear hm; obtain ⟨n2, rfl, hm⟩ := hb
        generalize hrec2 : fixN (law04_points_L2 p0 p2) n2 = rec2 at hm
        unfold law04_points_L2 at hm
        try dsimp only at hm
        refine sw_seq ?_
        refine sw_seq ?_
        -- region 4 outright.go:27
        refine sw_region [(0, 0), (1, 0), (2, 0), (3, 0)] rfl rfl rfl ?_
        refine sd_vv rfl rfl rfl (vv_move rfl) ?_
        refine sd_vv rfl rfl rfl (vv_move rfl) ?_
        have B14 := (Rd.kz B12 Kw3)
        refine sd_vv rfl rfl rfl (vv_lenT (l := p2) (c := uwc) Try.underlying60 rfl B14) ?_
        refine sd_vv rfl rfl rfl (vv_lss (a := a3) (b := (p2.length : Int)) rfl rfl) ?_
        refine sd_done ?_
        refine sw_cond rfl (fun c2 => ?_) (fun c2 => ?_)
        ·
          replace hm := ite_t (of_decide_eq_true c2) hm
          refine sw_skip ?_
          refine then_n ?_
          refine sw_seq ?_
          refine sw_block ?_
          refine sw_seq ?_
          -- region 6 outright.go:28 DRAWS
          refine sw_drawN [([])] [] (.leaf [(0, 10), (1, 10), (2, 10), (3, 10), (4, 10), (5, 10), (6, 10), (7, 10), (8, 10), (9, 10), (10, 10)]) (by kernel_rfl) (by kernel_rfl) rfl (by kernel_rfl) ?_
          intro w4 Gw4 zw4
          refine sdz_leaf ?_
          refine dd_hn 0 rfl rfl rfl rfl (Kp.refl ([]) w4) (fun w hS => vv_fieldAddr fa_45_2 rfl) ?_
          have B15 := (Bx.gr (Bx.kz (Bx.kz Bw1 Kw2) Kw3) Gw4)
          refine dd_hn 0 rfl rfl rfl rfl (Kp.refl ([]) w4) (fun w hS => vv_load1 (v := vp0_2) one_43 rfl (Bx.kp B15 hS) rfl) ?_
          refine dd_hn 0 rfl rfl rfl rfl (Kp.refl ([]) w4) (fun w hS => vv_move rfl) ?_
          have hb := bnd hm; clear hm; obtain ⟨y4, hy4, hm⟩ := hb
          have B16 := (Rd.gr (Rd.kz B11 Kw3) Gw4)
          refine dd_hn 0 rfl rfl rfl rfl (Kp.refl ([]) w4) (fun w hS => vv_ixT (i := a3) Try.underlying43 (agg_31).siz rfl (Rd.kp B16 hS) rfl hy4) ?_
          refine dd_hn 0 rfl rfl rfl rfl (Kp.refl ([]) w4) (fun w hS => vv_fieldAddr fa_31_0 rfl) ?_
          refine dd_hn 0 rfl rfl rfl rfl (Kp.refl ([]) w4) (fun w hS => vv_el1T (q := 0) (u := wv y4.X) one_24 rfl (Rd.kp B16 hS) hy4 (by first | rfl | omega) rfl) ?_
          refine dd_hn 0 rfl rfl rfl rfl (Kp.refl ([]) w4) (fun w hS => vv_move rfl) ?_
          refine dd_hn 0 rfl rfl rfl rfl (Kp.refl ([]) w4) (fun w hS => vv_move rfl) ?_
          have hb := bnd hm; clear hm; obtain ⟨y5, hy5, hm⟩ := hb
          have B17 := (Rd.gr B14 Gw4)
          refine dd_hn 0 rfl rfl rfl rfl (Kp.refl ([]) w4) (fun w hS => vv_ixT (i := a3) Try.underlying60 (one_24).siz rfl (Rd.kp B17 hS) rfl hy5) ?_
          refine dd_hn 0 rfl rfl rfl rfl (Kp.refl ([]) w4) (fun w hS => vv_el1T (q := 0) (u := wv y5) one_24 rfl (Rd.kp B17 hS) hy5 (by first | rfl | omega) rfl) ?_
          refine dd_hn 0 rfl rfl rfl rfl (Kp.refl ([]) w4) (fun w hS => vv_neqU (c := y4.X) (d := y5) rfl rfl) ?_
          refine sd_done ?_
          refine sw_cond rfl (fun c3 => ?_) (fun c3 => ?_)
          ·
            replace hm := ite_t (of_decide_eq_true c3) hm
            refine sw_seq ?_
            -- region 7 outright.go:29
            refine sw_region [(0, 0)] rfl rfl rfl ?_
            refine sd_vv rfl rfl rfl (vv_assign rfl) ?_
            refine sd_done ?_
            refine sw_ret ?_
            refine block_r ?_
            refine then_r ?_
            refine then_r ?_
            refine block_r ?_
            refine then_r ?_
            have X18 : Gr w w4 := (Gr.trans (Gr.kz X9 Kw3) Gw4)
            have hr := Option.some.inj hm
            subst hr
            refine ⟨_, _, rfl, res_1 rfl (rv_tmp rfl), ?_⟩
            exact ⟨rfl, X18⟩
          ·
            replace hm := ite_f (of_decide_eq_false c3) hm
            refine sw_skip ?_
            refine block_n ?_
            refine then_n ?_
            -- region 5 outright.go:27
            refine sw_region [(0, 0), (1, 0), (2, 0)] rfl rfl rfl ?_
            refine sd_vv rfl rfl rfl (vv_move rfl) ?_
            refine sd_vv rfl rfl rfl (vv_add (k := .i64) (a := a3) (b := 1) rfl rfl) ?_
            refine sd_vv rfl rfl rfl (vv_assign rfl) ?_
            refine sd_nil ?_
            have K_19 : Kz [] w2 w4 := (Kz.gr Kw3 Gw4)
            subst hrec2
            refine ⟨rfl, ⟨n2, w64 (a3 + 1)⟩, ?_, ⟨hm, K_19⟩, Nat.lt_succ_self _⟩
            repeat' first | exact trivial | refine ⟨rfl, ?_⟩
        ·
          replace hm := ite_f (of_decide_eq_false c2) hm
          refine sw_exit ?_
          refine then_x ?_
          refine then_x ?_
          refine block_x ?_
          refine then_n ?_
          refine sw_seq ?_
          -- region 8 outright.go:32
          refine sw_region [(0, 0)] rfl rfl rfl ?_
          refine sd_vv rfl rfl rfl (vv_assign rfl) ?_
          refine sd_done ?_
          refine sw_ret ?_
          have X20 : Gr w w3 := (Gr.kz X9 Kw3)
          have hr := Option.some.inj hm
          subst hr
          refine ⟨_, _, rfl, res_1 rfl (rv_tmp rfl), ?_⟩
          exact ⟨rfl, X20⟩
  ·
    -- region 1 outright.go:24
    refine sw_region [(0, 0), (1, 0), (2, 0), (3, 0), (4, 0), (5, 0), (6, 0), (7, 0), (8, 0), (9, 0)] rfl rfl rfl ?_
    refine sd_vv rfl rfl rfl (vv_move rfl) ?_
    refine sd_vv rfl rfl rfl (vv_neq (a := p1) (b := 0) rfl rfl) ?_
    refine sd_split rfl rfl rfl (vv_move rfl) (fun c4 => ?_) (fun c4 => ?_)
    ·
      replace hm := ite_t (of_decide_eq_true c4) hm
      refine sd_skip rfl rfl rfl ?_
      refine sd_skip rfl rfl rfl ?_
      refine sd_skip rfl rfl rfl ?_
      refine sd_skip rfl rfl rfl ?_
      refine sd_skip rfl rfl rfl ?_
      refine sd_skip rfl rfl rfl ?_
      refine sd_vv rfl rfl rfl (vv_pickT rfl rfl) ?_
      refine sd_nil ?_
      have K_21 : Kz [] w1 w1 := (Kz.refl _ _)
      refine ⟨rfl, true, ?_, hm, K_21⟩
      repeat' first | exact trivial | refine ⟨rfl, ?_⟩
    ·
      replace hm := ite_f (of_decide_eq_false c4) hm
      refine sd_vv rfl rfl rfl (vv_fieldAddr fa_45_2 rfl) ?_
      refine sd_vv rfl rfl rfl (vv_load1 (v := vp0_2) one_43 rfl Bw1 rfl) ?_
      have B22 := (Rd.gr hp0_2 Gw1)
      refine sd_vv rfl rfl rfl (vv_lenT (l := p0.Points) (c := TPoint.cs) Try.underlying43 rfl B22) ?_
      refine sd_vv rfl rfl rfl (vv_move rfl) ?_
      have B23 := (Rd.gr hp2 Gw1)
      refine sd_vv rfl rfl rfl (vv_lenT (l := p2) (c := uwc) Try.underlying60 rfl B23) ?_
      refine sd_vv rfl rfl rfl (vv_neq (a := (p0.Points.length : Int)) (b := (p2.length : Int)) rfl rfl) ?_
      refine sd_vv rfl rfl rfl (vv_pickF rfl rfl) ?_
      refine sd_nil ?_
      have K_24 : Kz [] w1 w1 := (Kz.refl _ _)
      refine ⟨rfl, (decide ((p0.Points.length : Int) ≠ (p2.length : Int))), ?_, hm, K_24⟩
      repeat' first | exact trivial | refine ⟨rfl, ?_⟩

set_option maxHeartbeats 2000000 in
theorem law04_nodes_w (p0 : TPunctured) (p1 : Int) (p2 : List Int) (vp0_1 : Value) (zp0_1 gp0_1 op0_1 : Nat) (vp2 : Value) (zp2 gp2 op2 : Nat) (r : Bool) (hm : law04_nodes p0 p1 p2 = some r) (w : World) (hp0_1 : Rd w zp0_1 gp0_1 op0_1 18 vp0_1 (p0.Labels.map TLabel.cs)) (hp2 : Rd w zp2 gp2 op2 1 vp2 (p2.map ic))  :
    Calls Try.prog 51 [.agg (TPunctured.cs p0 vp0_1).toArray, .int .i64 p1, vp2].toArray w fun e w' => ∃ v, e = .returned v ∧ (v = .bool r ∧ Gr w w') := by
  have lt1 := hp0_1.lth
  have lt2 := hp2.lth
  unfold law04_nodes at hm
  refine calls_of_sw (R := fun v w' => v = .bool r ∧ Gr w w') 35 Try.func51 rfl rfl rfl ?_
  refine sw_seq ?_
  -- region 0 outright.go:36
  refine sw_region [(0, 0), (1, 0)] rfl rfl rfl ?_
  refine sd_ev rfl rfl rfl (ev_box (cs := TPunctured.cs p0 vp0_1) rfl rfl) ?_
  rintro _ w1 ⟨b1, rfl, hbw1, Bw1, Gw1⟩
  have z3 := Gw1.size
  have lt4 := Bw1.lt
  refine sd_vv rfl rfl rfl (vv_assign rfl) ?_
  refine sd_done ?_
  refine sw_seq ?_
  have X5 : Gr w w1 := (Gr.trans (Gr.refl w) Gw1)
  refine sw_joinD (β := Bool) [8, 9, 10, 11, 12, 13, 14, 15, 16, 17] (fun a1 => [(17, .bool a1)]) (fun a1 wr => (law04_nodes_J1 p0 p2 a1 = some r) ∧ Kz [] w1 wr) ?_ ?_
  · clear hm; rintro a1 w2 ⟨hm, Kw2⟩
    have z6 := Kw2.size
    unfold law04_nodes_J1 at hm
    refine sw_cond rfl (fun c1 => ?_) (fun c1 => ?_)
    ·
      replace hm := cnd_t c1 hm
      refine sw_seq ?_
      -- region 2 outright.go:38
      refine sw_region [(0, 0)] rfl rfl rfl ?_
      refine sd_vv rfl rfl rfl (vv_assign rfl) ?_
      refine sd_done ?_
      refine sw_ret ?_
      refine then_r ?_
      have X7 : Gr w w2 := (Gr.kz X5 Kw2)
      have hr := Option.some.inj hm
      subst hr
      refine ⟨_, _, rfl, res_1 rfl (rv_tmp rfl), ?_⟩
      exact ⟨rfl, X7⟩
    ·
      replace hm := cnd_f c1 hm
      refine sw_skip ?_
      refine then_n ?_
      refine sw_seq ?_
      refine sw_seq ?_
      -- region 3 outright.go:40
      refine sw_region [(0, 0)] rfl rfl rfl ?_
      refine sd_vv rfl rfl rfl (vv_assign rfl) ?_
      refine sd_done ?_
      refine sw_block ?_
      have X8 : Gr w w2 := (Gr.kz X5 Kw2)
      have B9 := (Rd.kz (Rd.gr hp0_1 Gw1) Kw2)
      have B10 := (Rd.kz (Rd.gr hp2 Gw1) Kw2)
      refine sw_loopD (α := Nat × Int) [6, 7, 18, 19, 20, 21, 22, 23, 24, 25, 26, 27, 28, 29, 30, 31, 32, 33, 34] (fun ⟨n2, a3⟩ => [(6, .bool false), (7, .int .i64 a3)]) (fun ⟨n2, a3⟩ wr => (fixN (law04_nodes_L2 p0 p2) n2 a3 = some r) ∧ Kz [] w2 wr) (fun ⟨n2, a3⟩ => n2) ⟨FUEL, 0⟩ ?_ ?_ ?_
      · repeat' first | exact trivial | refine ⟨rfl, ?_⟩
      · exact ⟨hm, Kz.refl _ _⟩
      · clear hm; rintro ⟨n2, a3⟩ w3 ⟨hm, Kw3⟩
        have z11 := Kw3.size
        have hb := fix_succ hm; clear hm; obtain ⟨n2, rfl, hm⟩ := hb
        generalize hrec2 : fixN (law04_nodes_L2 p0 p2) n2 = rec2 at hm
        unfold law04_nodes_L2 at hm
        try dsimp only at hm
        refine sw_seq ?_
        refine sw_seq ?_
        -- region 4 outright.go:40
        refine sw_region [(0, 0), (1, 0), (2, 0), (3, 0)] rfl rfl rfl ?_
        refine sd_vv rfl rfl rfl (vv_move rfl) ?_
        refine sd_vv rfl rfl rfl (vv_move rfl) ?_
        have B12 := (Rd.kz B10 Kw3)
        refine sd_vv rfl rfl rfl (vv_lenT (l := p2) (c := ic) Try.underlying41 rfl B12) ?_
        refine sd_vv rfl rfl rfl (vv_lss (a := a3) (b := (p2.length : Int)) rfl rfl) ?_
        refine sd_done ?_
        refine sw_cond rfl (fun c2 => ?_) (fun c2 => ?_)
        ·
          replace hm := ite_t (of_decide_eq_true c2) hm
          refine sw_skip ?_
          refine then_n ?_
          refine sw_seq ?_
          refine sw_block ?_
          refine sw_seq ?_
          -- region 6 outright.go:41 DRAWS
          refine sw_drawN [([])] [] (.leaf [(0, 10), (1, 10), (2, 10), (3, 10), (4, 10), (5, 10), (6, 10), (7, 10), (8, 10), (9, 10), (10, 10)]) (by kernel_rfl) (by kernel_rfl) rfl (by kernel_rfl) ?_
          intro w4 Gw4 zw4
          refine sdz_leaf ?_
          refine dd_hn 0 rfl rfl rfl rfl (Kp.refl ([]) w4) (fun w hS => vv_fieldAddr fa_76_1 rfl) ?_
          have B13 := (Bx.gr (Bx.kz (Bx.kz Bw1 Kw2) Kw3) Gw4)
          refine dd_hn 0 rfl rfl rfl rfl (Kp.refl ([]) w4) (fun w hS => vv_load1 (v := vp0_1) one_29 rfl (Bx.kp B13 hS) rfl) ?_
          refine dd_hn 0 rfl rfl rfl rfl (Kp.refl ([]) w4) (fun w hS => vv_move rfl) ?_
          have hb := bnd hm; clear hm; obtain ⟨y4, hy4, hm⟩ := hb
          have B14 := (Rd.gr (Rd.kz B9 Kw3) Gw4)
          refine dd_hn 0 rfl rfl rfl rfl (Kp.refl ([]) w4) (fun w hS => vv_ixT (i := a3) Try.underlying29 (agg_88).siz rfl (Rd.kp B14 hS) rfl hy4) ?_
          refine dd_hn 0 rfl rfl rfl rfl (Kp.refl ([]) w4) (fun w hS => vv_fieldAddr fa_88_0 rfl) ?_
          refine dd_hn 0 rfl rfl rfl rfl (Kp.refl ([]) w4) (fun w hS => vv_el1T (q := 0) (u := .int .i64 y4.Node) one_3 rfl (Rd.kp B14 hS) hy4 (by first | rfl | omega) rfl) ?_
          refine dd_hn 0 rfl rfl rfl rfl (Kp.refl ([]) w4) (fun w hS => vv_move rfl) ?_
          refine dd_hn 0 rfl rfl rfl rfl (Kp.refl ([]) w4) (fun w hS => vv_move rfl) ?_
          have hb := bnd hm; clear hm; obtain ⟨y5, hy5, hm⟩ := hb
          have B15 := (Rd.gr B12 Gw4)
          refine dd_hn 0 rfl rfl rfl rfl (Kp.refl ([]) w4) (fun w hS => vv_ixT (i := a3) Try.underlying41 (one_3).siz rfl (Rd.kp B15 hS) rfl hy5) ?_
          refine dd_hn 0 rfl rfl rfl rfl (Kp.refl ([]) w4) (fun w hS => vv_el1T (q := 0) (u := .int .i64 y5) one_3 rfl (Rd.kp B15 hS) hy5 (by first | rfl | omega) rfl) ?_
          refine dd_hn 0 rfl rfl rfl rfl (Kp.refl ([]) w4) (fun w hS => vv_neq (a := y4.Node) (b := y5) rfl rfl) ?_
          refine sd_done ?_
          refine sw_cond rfl (fun c3 => ?_) (fun c3 => ?_)
          ·
            replace hm := ite_t (of_decide_eq_true c3) hm
            refine sw_seq ?_
            -- region 7 outright.go:42
            refine sw_region [(0, 0)] rfl rfl rfl ?_
            refine sd_vv rfl rfl rfl (vv_assign rfl) ?_
            refine sd_done ?_
            refine sw_ret ?_
            refine block_r ?_
            refine then_r ?_
            refine then_r ?_
            refine block_r ?_
            refine then_r ?_
            have X16 : Gr w w4 := (Gr.trans (Gr.kz X8 Kw3) Gw4)
            have hr := Option.some.inj hm
            subst hr
            refine ⟨_, _, rfl, res_1 rfl (rv_tmp rfl), ?_⟩
            exact ⟨rfl, X16⟩
          ·
            replace hm := ite_f (of_decide_eq_false c3) hm
            refine sw_skip ?_
            refine block_n ?_
            refine then_n ?_
            -- region 5 outright.go:40
            refine sw_region [(0, 0), (1, 0), (2, 0)] rfl rfl rfl ?_
            refine sd_vv rfl rfl rfl (vv_move rfl) ?_
            refine sd_vv rfl rfl rfl (vv_add (k := .i64) (a := a3) (b := 1) rfl rfl) ?_
            refine sd_vv rfl rfl rfl (vv_assign rfl) ?_
            refine sd_nil ?_
            have K_17 : Kz [] w2 w4 := (Kz.gr Kw3 Gw4)
            subst hrec2
            refine ⟨rfl, ⟨n2, w64 (a3 + 1)⟩, ?_, ⟨hm, K_17⟩, Nat.lt_succ_self _⟩
            repeat' first | exact trivial | refine ⟨rfl, ?_⟩
        ·
          replace hm := ite_f (of_decide_eq_false c2) hm
          refine sw_exit ?_
          refine then_x ?_
          refine then_x ?_
          refine block_x ?_
          refine then_n ?_
          refine sw_seq ?_
          -- region 8 outright.go:45
          refine sw_region [(0, 0)] rfl rfl rfl ?_
          refine sd_vv rfl rfl rfl (vv_assign rfl) ?_
          refine sd_done ?_
          refine sw_ret ?_
          have X18 : Gr w w3 := (Gr.kz X8 Kw3)
          have hr := Option.some.inj hm
          subst hr
          refine ⟨_, _, rfl, res_1 rfl (rv_tmp rfl), ?_⟩
          exact ⟨rfl, X18⟩
  ·
    -- region 1 outright.go:37
    refine sw_region [(0, 0), (1, 0), (2, 0), (3, 0), (4, 0), (5, 0), (6, 0), (7, 0), (8, 0), (9, 0)] rfl rfl rfl ?_
    refine sd_vv rfl rfl rfl (vv_move rfl) ?_
    refine sd_vv rfl rfl rfl (vv_neq (a := p1) (b := 0) rfl rfl) ?_
    refine sd_split rfl rfl rfl (vv_move rfl) (fun c4 => ?_) (fun c4 => ?_)
    ·
      replace hm := ite_t (of_decide_eq_true c4) hm
      refine sd_skip rfl rfl rfl ?_
      refine sd_skip rfl rfl rfl ?_
      refine sd_skip rfl rfl rfl ?_
      refine sd_skip rfl rfl rfl ?_
      refine sd_skip rfl rfl rfl ?_
      refine sd_skip rfl rfl rfl ?_
      refine sd_vv rfl rfl rfl (vv_pickT rfl rfl) ?_
      refine sd_nil ?_
      have K_19 : Kz [] w1 w1 := (Kz.refl _ _)
      refine ⟨rfl, true, ?_, hm, K_19⟩
      repeat' first | exact trivial | refine ⟨rfl, ?_⟩
    ·
      replace hm := ite_f (of_decide_eq_false c4) hm
      refine sd_vv rfl rfl rfl (vv_fieldAddr fa_76_1 rfl) ?_
      refine sd_vv rfl rfl rfl (vv_load1 (v := vp0_1) one_29 rfl Bw1 rfl) ?_
      have B20 := (Rd.gr hp0_1 Gw1)
      refine sd_vv rfl rfl rfl (vv_lenT (l := p0.Labels) (c := TLabel.cs) Try.underlying29 rfl B20) ?_
      refine sd_vv rfl rfl rfl (vv_move rfl) ?_
      have B21 := (Rd.gr hp2 Gw1)
      refine sd_vv rfl rfl rfl (vv_lenT (l := p2) (c := ic) Try.underlying41 rfl B21) ?_
      refine sd_vv rfl rfl rfl (vv_neq (a := (p0.Labels.length : Int)) (b := (p2.length : Int)) rfl rfl) ?_
      refine sd_vv rfl rfl rfl (vv_pickF rfl rfl) ?_
      refine sd_nil ?_
      have K_22 : Kz [] w1 w1 := (Kz.refl _ _)
      refine ⟨rfl, (decide ((p0.Labels.length : Int) ≠ (p2.length : Int))), ?_, hm, K_22⟩
      repeat' first | exact trivial | refine ⟨rfl, ?_⟩

set_option maxHeartbeats 2000000 in
theorem law04_alive_w   (r : Bool) (hm : law04_alive = some r) (w : World)   :
    Calls Try.prog 49 [].toArray w fun e w' => ∃ v, e = .returned v ∧ (v = .bool r ∧ Gr w w') := by
  unfold law04_alive at hm
  refine calls_of_sw (R := fun v w' => v = .bool r ∧ Gr w w') 174 Try.func49 rfl rfl rfl ?_
  refine sw_seq ?_
  -- region 0 outright.go:49
  refine sw_region [(0, 0)] rfl rfl rfl ?_
  refine sd_vv rfl rfl rfl (vv_assign rfl) ?_
  refine sd_done ?_
  refine sw_seq ?_
  -- region 1 outright.go:50
  refine sw_region [(0, 0), (1, 0), (2, 0)] rfl rfl rfl ?_
  have hb := bnd hm; clear hm; obtain ⟨x1, hx1, hm⟩ := hb
  refine sd_ev rfl rfl rfl (ev_call en_48 rfl (law04_small_w _ hx1 _)) ?_
  rintro _ w1 ⟨rfl, Gw1⟩
  have z1 := Gw1.size
  refine sd_ev rfl rfl rfl (ev_alloc (cs := TScheme.cs (TScheme.mk 0#8 0 0 (TGroup.mk 0#64 0#64 0#64))) zv_28 rfl) ?_
  rintro _ w2 ⟨b2, rfl, hbw2, Bw2, Gw2⟩
  have z2 := Gw2.size
  have lt3 := Bw2.lt
  refine sd_ev rfl rfl rfl (ev_stM (cs' := TScheme.cs x1) (vs := TScheme.cs x1) (agg_28).siz rfl rfl rfl rfl rfl Bw2 rfl rfl) ?_
  rintro _ w3 ⟨Bw3, Mw3⟩
  have z4 := Mw3.size
  refine sd_done ?_
  refine sw_seq ?_
  -- region 2 outright.go:51
  refine sw_region [(0, 0), (1, 0), (2, 0), (3, 0), (4, 0), (5, 0), (6, 0), (7, 0)] rfl rfl rfl ?_
  refine sd_vv rfl rfl rfl (vv_loadW agg_28 rfl Bw3 rfl) ?_
  refine sd_ev rfl rfl rfl (ev_litT [3#64, 0#64, 2#64] uwc bsl_60_3 rfl rfl (ws_of rfl) rfl rfl rfl) ?_
  rintro vw4 w4 ⟨gw4, hbw4, Ow4, Gw4⟩
  have z5 := Gw4.size
  have lt6 := Ow4.lth
  have hb := bnd hm; clear hm; obtain ⟨x2, hx2, hm⟩ := hb
  refine sd_ev rfl rfl rfl (ev_call en_34 rfl (poly_Value_w x1 [3#64, 0#64, 2#64] 4#64 _ _ _ _ _ hx2 _ (Own.rd Ow4))) ?_
  rintro _ w5 ⟨rfl, Gw5⟩
  have z7 := Gw5.size
  refine sd_vv rfl rfl rfl (vv_move rfl) ?_
  refine sd_vv rfl rfl rfl (vv_extract rfl rfl) ?_
  refine sd_vv rfl rfl rfl (vv_extract rfl rfl) ?_
  refine sd_vv rfl rfl rfl (vv_assign rfl) ?_
  refine sd_vv rfl rfl rfl (vv_assign rfl) ?_
  refine sd_done ?_
  refine sw_seq ?_
  -- region 3 outright.go:52
  refine sw_region [(0, 0), (1, 0), (2, 0), (3, 0), (4, 0), (5, 0), (6, 0), (7, 0), (8, 0), (9, 0), (10, 0)] rfl rfl rfl ?_
  have B8 := (Bx.gr (Bx.gr Bw3 Gw4) Gw5)
  refine sd_vv rfl rfl rfl (vv_loadW agg_28 rfl B8 rfl) ?_
  refine sd_vv rfl rfl rfl (vv_build (cs := TPoint.cs (TPoint.mk 1#64 5#64)) bs_31 rfl rfl) ?_
  refine sd_vv rfl rfl rfl (vv_build (cs := TPoint.cs (TPoint.mk 4#64 2#64)) bs_31 rfl rfl) ?_
  refine sd_vv rfl rfl rfl (vv_build (cs := TPoint.cs (TPoint.mk 0#64 3#64)) bs_31 rfl rfl) ?_
  refine sd_ev rfl rfl rfl (ev_litT [(TPoint.mk 1#64 5#64), (TPoint.mk 4#64 2#64), (TPoint.mk 0#64 3#64)] TPoint.cs bsl_43_3 rfl rfl (ws_of rfl) rfl rfl rfl) ?_
  rintro vw6 w6 ⟨gw6, hbw6, Ow6, Gw6⟩
  have z9 := Gw6.size
  have lt10 := Ow6.lth
  have hb := bnd hm; clear hm; obtain ⟨x3, hx3, hm⟩ := hb
  refine sd_ev rfl rfl rfl (ev_call en_36 rfl (poly_Interpolate_w x1 [(TPoint.mk 1#64 5#64), (TPoint.mk 4#64 2#64), (TPoint.mk 0#64 3#64)] _ _ _ _ _ hx3 _ (Own.rd Ow6))) ?_
  rintro _ w7 ⟨u7_r0_s, z7_r0_s, g7_r0_s, rfl, O7_r0_s, f7_r0_s, Gw7⟩
  have z11 := Gw7.size
  have lt12 := O7_r0_s.lth
  refine sd_vv rfl rfl rfl (vv_move rfl) ?_
  refine sd_vv rfl rfl rfl (vv_extract rfl rfl) ?_
  refine sd_vv rfl rfl rfl (vv_extract rfl rfl) ?_
  refine sd_vv rfl rfl rfl (vv_assign rfl) ?_
  refine sd_vv rfl rfl rfl (vv_assign rfl) ?_
  refine sd_done ?_
  refine sw_seq ?_
  have X13 : Gr w w7 := (Gr.trans (Gr.trans (Gr.trans (Gr.trans (Gr.md (Gr.trans (Gr.trans (Gr.refl w) Gw1) Gw2) Mw3) Gw4) Gw5) Gw6) Gw7)
  refine sw_joinD (β := Bool) [36, 37, 38, 39, 40, 41, 42, 43, 44, 45, 46, 47, 48, 49, 50, 51, 52, 53] (fun a4 => [(53, .bool a4)]) (fun a4 wr => (law04_alive_J1 x1 a4 = some r) ∧ Kz [] w7 wr) ?_ ?_
  · clear hm; rintro a4 w8 ⟨hm, Kw8⟩
    have z14 := Kw8.size
    unfold law04_alive_J1 at hm
    refine sw_cond rfl (fun c1 => ?_) (fun c1 => ?_)
    ·
      replace hm := cnd_t c1 hm
      refine sw_seq ?_
      -- region 5 outright.go:54
      refine sw_region [(0, 0)] rfl rfl rfl ?_
      refine sd_vv rfl rfl rfl (vv_assign rfl) ?_
      refine sd_done ?_
      refine sw_ret ?_
      refine then_r ?_
      have X15 : Gr w w8 := (Gr.kz X13 Kw8)
      have hr := Option.some.inj hm
      subst hr
      refine ⟨_, _, rfl, res_1 rfl (rv_tmp rfl), ?_⟩
      exact ⟨rfl, X15⟩
    ·
      replace hm := cnd_f c1 hm
      refine sw_skip ?_
      refine then_n ?_
      refine sw_seq ?_
      -- region 6 outright.go:56
      refine sw_region [(0, 0), (1, 0), (2, 0), (3, 0), (4, 0), (5, 0)] rfl rfl rfl ?_
      refine sd_vv rfl rfl rfl (vv_buildA (cs := kb (72057594037927936#64, 0#64)) ba_23 rfl (by kernel_rfl)) ?_
      refine sd_vv rfl rfl rfl (vv_buildA (cs := kb (144115188075855872#64, 0#64)) ba_23 rfl (by kernel_rfl)) ?_
      refine sd_ev rfl rfl rfl (ev_alloc (cs := kb k0) zv_23 rfl) ?_
      rintro _ w9 ⟨b9, rfl, hbw9, Bw9, Gw9⟩
      have z16 := Gw9.size
      have lt17 := Bw9.lt
      refine sd_ev rfl rfl rfl (ev_alloc (cs := kb k0) zv_23 rfl) ?_
      rintro _ w10 ⟨b10, rfl, hbw10, Bw10, Gw10⟩
      have z18 := Gw10.size
      have lt19 := Bw10.lt
      have B20 := (Bx.gr Bw9 Gw10)
      refine sd_ev rfl rfl rfl (ev_stM (cs' := kb (72057594037927936#64, 0#64)) (vs := kb (72057594037927936#64, 0#64)) (agg_23).siz rfl rfl rfl rfl rfl B20 rfl (by obtain ⟨kk0, hk0⟩ := ex_of ((72057594037927936#64, 0#64)); rw [← hk0]; first | done | rfl)) ?_
      rintro _ w11 ⟨Bw11, Mw11⟩
      have z21 := Mw11.size
      have B22 := (Bx.md Bw10 Mw11)
      refine sd_ev rfl rfl rfl (ev_stM (cs' := kb (144115188075855872#64, 0#64)) (vs := kb (144115188075855872#64, 0#64)) (agg_23).siz rfl rfl rfl rfl rfl B22 rfl (by obtain ⟨kk0, hk0⟩ := ex_of ((144115188075855872#64, 0#64)); rw [← hk0]; first | done | rfl)) ?_
      rintro _ w12 ⟨Bw12, Mw12⟩
      have z23 := Mw12.size
      refine sd_done ?_
      refine sw_seq ?_
      -- region 7 outright.go:57
      refine sw_region [(0, 0), (1, 0), (2, 0), (3, 0), (4, 0), (5, 0), (6, 0), (7, 0), (8, 0), (9, 0), (10, 0)] rfl rfl rfl ?_
      have B24 := (Bx.md Bw11 Mw12)
      refine sd_vv rfl rfl rfl (vv_loadW agg_23 rfl B24 rfl) ?_
      have B25 := (Bx.md (Bx.md (Bx.gr (Bx.gr (Bx.kz (Bx.gr (Bx.gr B8 Gw6) Gw7) Kw8) Gw9) Gw10) Mw11) Mw12)
      refine sd_vv rfl rfl rfl (vv_loadW agg_28 rfl B25 rfl) ?_
      refine sd_ev rfl rfl rfl (ev_litT [1] ic bsl_41_1 rfl rfl (ws_of rfl) rfl rfl rfl) ?_
      rintro vw13 w13 ⟨gw13, hbw13, Ow13, Gw13⟩
      have z26 := Gw13.size
      have lt27 := Ow13.lth
      have B28 := (Bx.gr Bw12 Gw13)
      refine sd_vv rfl rfl rfl (vv_loadW agg_23 rfl B28 rfl) ?_
      have hb := bnd hm; clear hm; obtain ⟨x5, hx5, hm⟩ := hb
      refine sd_ev rfl rfl rfl (ev_call en_21 rfl (poly_Seal_w (72057594037927936#64, 0#64) x1 [1] (144115188075855872#64, 0#64) 5#64 _ _ _ _ _ hx5 _ (Own.rd Ow13))) ?_
      rintro _ w14 ⟨u14_r0_0, z14_r0_0, g14_r0_0, u14_r0_2, z14_r0_2, g14_r0_2, rfl, O14_r0_0, f14_r0_0, O14_r0_2, f14_r0_2, d14_0, Gw14⟩
      have z29 := Gw14.size
      have lt30 := O14_r0_0.lth
      have lt31 := O14_r0_2.lth
      refine sd_vv rfl rfl rfl (vv_move rfl) ?_
      refine sd_vv rfl rfl rfl (vv_extract rfl rfl) ?_
      refine sd_vv rfl rfl rfl (vv_extract rfl rfl) ?_
      refine sd_ev rfl rfl rfl (ev_alloc (cs := THeader.cs (THeader.mk [] 0#64 [] k0 k0) (.slice none 0 0) (.slice none 0 0)) zv_45 rfl) ?_
      rintro _ w15 ⟨b15, rfl, hbw15, Bw15, Gw15⟩
      have z32 := Gw15.size
      have lt33 := Bw15.lt
      have B34 := (Own.gr O14_r0_0 Gw15)
      have B35 := (Own.gr O14_r0_2 Gw15)
      refine sd_ev rfl rfl rfl (ev_stM (cs' := THeader.cs x5.1 u14_r0_0 u14_r0_2) (vs := THeader.cs x5.1 u14_r0_0 u14_r0_2) (agg_45).siz rfl rfl rfl rfl (THeader.cs_ones _ _ _ (Own.oneB B34) (Own.oneB B35)) Bw15 rfl rfl) ?_
      rintro _ w16 ⟨Bw16, Mw16⟩
      have z36 := Mw16.size
      refine sd_vv rfl rfl rfl (vv_assign rfl) ?_
      refine sd_done ?_
      refine sw_seq ?_
      -- region 8 outright.go:58
      refine sw_region [(0, 0), (1, 0), (2, 0), (3, 0), (4, 0), (5, 0), (6, 0), (7, 0), (8, 0)] rfl rfl rfl ?_
      have B37 := (Bx.md (Bx.gr (Bx.gr (Bx.gr B24 Gw13) Gw14) Gw15) Mw16)
      refine sd_vv rfl rfl rfl (vv_loadW agg_23 rfl B37 rfl) ?_
      have B38 := (Bx.md (Bx.gr (Bx.gr (Bx.gr B25 Gw13) Gw14) Gw15) Mw16)
      refine sd_vv rfl rfl rfl (vv_loadW agg_28 rfl B38 rfl) ?_
      have hb := bnd hm; clear hm; obtain ⟨x6, hx6, hm⟩ := hb
      refine sd_ev rfl rfl rfl (ev_call en_18 rfl (poly_Secret_w (72057594037927936#64, 0#64) x1 0 _ hx6 _)) ?_
      rintro _ w17 ⟨u17_r0_1, z17_r0_1, g17_r0_1, rfl, O17_r0_1, f17_r0_1, Gw17⟩
      have z39 := Gw17.size
      have lt40 := O17_r0_1.lth
      refine sd_vv rfl rfl rfl (vv_move rfl) ?_
      refine sd_vv rfl rfl rfl (vv_extract rfl rfl) ?_
      refine sd_vv rfl rfl rfl (vv_extract rfl rfl) ?_
      refine sd_ev rfl rfl rfl (ev_alloc (cs := TSecret.cs (TSecret.mk 0 [] (TPoint.mk 0#64 0#64)) (.slice none 0 0)) zv_33 rfl) ?_
      rintro _ w18 ⟨b18, rfl, hbw18, Bw18, Gw18⟩
      have z41 := Gw18.size
      have lt42 := Bw18.lt
      have B43 := (Own.gr O17_r0_1 Gw18)
      refine sd_ev rfl rfl rfl (ev_stM (cs' := TSecret.cs x6.1 u17_r0_1) (vs := TSecret.cs x6.1 u17_r0_1) (agg_33).siz rfl rfl rfl rfl (TSecret.cs_ones _ _ (Own.oneB B43)) Bw18 rfl rfl) ?_
      rintro _ w19 ⟨Bw19, Mw19⟩
      have z44 := Mw19.size
      refine sd_vv rfl rfl rfl (vv_assign rfl) ?_
      refine sd_done ?_
      refine sw_seq ?_
      -- region 9 outright.go:59
      refine sw_region [(0, 0), (1, 0), (2, 0), (3, 0), (4, 0), (5, 0), (6, 0), (7, 0), (8, 0)] rfl rfl rfl ?_
      have B45 := (Bx.md (Bx.gr (Bx.gr B37 Gw17) Gw18) Mw19)
      refine sd_vv rfl rfl rfl (vv_loadW agg_23 rfl B45 rfl) ?_
      have B46 := (Bx.md (Bx.gr (Bx.gr B38 Gw17) Gw18) Mw19)
      refine sd_vv rfl rfl rfl (vv_loadW agg_28 rfl B46 rfl) ?_
      have hb := bnd hm; clear hm; obtain ⟨x7, hx7, hm⟩ := hb
      refine sd_ev rfl rfl rfl (ev_call en_18 rfl (poly_Secret_w (72057594037927936#64, 0#64) x1 1 _ hx7 _)) ?_
      rintro _ w20 ⟨u20_r0_1, z20_r0_1, g20_r0_1, rfl, O20_r0_1, f20_r0_1, Gw20⟩
      have z47 := Gw20.size
      have lt48 := O20_r0_1.lth
      refine sd_vv rfl rfl rfl (vv_move rfl) ?_
      refine sd_vv rfl rfl rfl (vv_extract rfl rfl) ?_
      refine sd_vv rfl rfl rfl (vv_extract rfl rfl) ?_
      refine sd_ev rfl rfl rfl (ev_alloc (cs := TSecret.cs (TSecret.mk 0 [] (TPoint.mk 0#64 0#64)) (.slice none 0 0)) zv_33 rfl) ?_
      rintro _ w21 ⟨b21, rfl, hbw21, Bw21, Gw21⟩
      have z49 := Gw21.size
      have lt50 := Bw21.lt
      have B51 := (Own.gr O20_r0_1 Gw21)
      refine sd_ev rfl rfl rfl (ev_stM (cs' := TSecret.cs x7.1 u20_r0_1) (vs := TSecret.cs x7.1 u20_r0_1) (agg_33).siz rfl rfl rfl rfl (TSecret.cs_ones _ _ (Own.oneB B51)) Bw21 rfl rfl) ?_
      rintro _ w22 ⟨Bw22, Mw22⟩
      have z52 := Mw22.size
      refine sd_vv rfl rfl rfl (vv_assign rfl) ?_
      refine sd_done ?_
      refine sw_seq ?_
      -- region 10 outright.go:60
      refine sw_region [(0, 0), (1, 0), (2, 0), (3, 0), (4, 0), (5, 0), (6, 0), (7, 0), (8, 0), (9, 0)] rfl rfl rfl ?_
      have B53 := (Bx.md (Bx.gr (Bx.gr B46 Gw20) Gw21) Mw22)
      refine sd_vv rfl rfl rfl (vv_loadW agg_28 rfl B53 rfl) ?_
      have B54 := (Bx.md (Bx.gr (Bx.gr Bw19 Gw20) Gw21) Mw22)
      refine sd_vv rfl rfl rfl (vv_loadW agg_33 rfl B54 rfl) ?_
      have B55 := (Bx.md (Bx.gr (Bx.gr (Bx.md (Bx.gr (Bx.gr Bw16 Gw17) Gw18) Mw19) Gw20) Gw21) Mw22)
      refine sd_vv rfl rfl rfl (vv_loadW agg_45 rfl B55 rfl) ?_
      have B56 := (Own.md (Own.gr (Own.gr (Own.md B43 Mw19 (tk1 ((pv_lt (A := (fun x => x ≠ b18)) lt40) : z17_r0_1 = 0 ∨ g17_r0_1 ≠ b18))) Gw20) Gw21) Mw22 (tk1 ((pv_lt (A := (fun x => x ≠ b21)) lt40) : z17_r0_1 = 0 ∨ g17_r0_1 ≠ b21)))
      have B57 := (Own.md (Own.gr (Own.gr (Own.md (Own.gr (Own.gr (Own.md B34 Mw16 (tk1 ((pv_lt (A := (fun x => x ≠ b15)) lt30) : z14_r0_0 = 0 ∨ g14_r0_0 ≠ b15))) Gw17) Gw18) Mw19 (tk1 ((pv_lt (A := (fun x => x ≠ b18)) lt30) : z14_r0_0 = 0 ∨ g14_r0_0 ≠ b18))) Gw20) Gw21) Mw22 (tk1 ((pv_lt (A := (fun x => x ≠ b21)) lt30) : z14_r0_0 = 0 ∨ g14_r0_0 ≠ b21)))
      have B58 := (Own.md (Own.gr (Own.gr (Own.md (Own.gr (Own.gr (Own.md B35 Mw16 (tk1 ((pv_lt (A := (fun x => x ≠ b15)) lt31) : z14_r0_2 = 0 ∨ g14_r0_2 ≠ b15))) Gw17) Gw18) Mw19 (tk1 ((pv_lt (A := (fun x => x ≠ b18)) lt31) : z14_r0_2 = 0 ∨ g14_r0_2 ≠ b18))) Gw20) Gw21) Mw22 (tk1 ((pv_lt (A := (fun x => x ≠ b21)) lt31) : z14_r0_2 = 0 ∨ g14_r0_2 ≠ b21)))
      have hb := bnd hm; clear hm; obtain ⟨x8, hx8, hm⟩ := hb
      refine sd_ev rfl rfl rfl (ev_call en_27 rfl (poly_Open_w x1 x6.1 x5.1 _ _ _ _ _ _ _ _ _ _ _ _ _ hx8 _ (Own.rd B56) (Own.rd B57) (Own.rd B58))) ?_
      rintro _ w23 ⟨rfl, Gw23⟩
      have z59 := Gw23.size
      refine sd_vv rfl rfl rfl (vv_move rfl) ?_
      refine sd_vv rfl rfl rfl (vv_extract rfl rfl) ?_
      refine sd_vv rfl rfl rfl (vv_extract rfl rfl) ?_
      refine sd_ev rfl rfl rfl (ev_alloc (cs := kb k0) zv_23 rfl) ?_
      rintro _ w24 ⟨b24, rfl, hbw24, Bw24, Gw24⟩
      have z60 := Gw24.size
      have lt61 := Bw24.lt
      refine sd_ev rfl rfl rfl (ev_stM (cs' := kb x8.1) (vs := kb x8.1) (agg_23).siz rfl rfl rfl rfl rfl Bw24 rfl rfl) ?_
      rintro _ w25 ⟨Bw25, Mw25⟩
      have z62 := Mw25.size
      refine sd_vv rfl rfl rfl (vv_assign rfl) ?_
      refine sd_done ?_
      refine sw_seq ?_
      -- region 11 outright.go:61
      refine sw_region [(0, 0), (1, 0), (2, 0), (3, 0), (4, 0), (5, 0), (6, 0), (7, 0), (8, 0), (9, 0)] rfl rfl rfl ?_
      have B63 := (Bx.md (Bx.gr (Bx.gr B53 Gw23) Gw24) Mw25)
      refine sd_vv rfl rfl rfl (vv_loadW agg_28 rfl B63 rfl) ?_
      have B64 := (Bx.md (Bx.gr (Bx.gr Bw22 Gw23) Gw24) Mw25)
      refine sd_vv rfl rfl rfl (vv_loadW agg_33 rfl B64 rfl) ?_
      have B65 := (Bx.md (Bx.gr (Bx.gr B55 Gw23) Gw24) Mw25)
      refine sd_vv rfl rfl rfl (vv_loadW agg_45 rfl B65 rfl) ?_
      have B66 := (Own.md (Own.gr (Own.gr (Own.md B51 Mw22 (tk1 ((pv_lt (A := (fun x => x ≠ b21)) lt48) : z20_r0_1 = 0 ∨ g20_r0_1 ≠ b21))) Gw23) Gw24) Mw25 (tk1 ((pv_lt (A := (fun x => x ≠ b24)) lt48) : z20_r0_1 = 0 ∨ g20_r0_1 ≠ b24)))
      have B67 := (Own.md (Own.gr (Own.gr B57 Gw23) Gw24) Mw25 (tk1 ((pv_lt (A := (fun x => x ≠ b24)) lt30) : z14_r0_0 = 0 ∨ g14_r0_0 ≠ b24)))
      have B68 := (Own.md (Own.gr (Own.gr B58 Gw23) Gw24) Mw25 (tk1 ((pv_lt (A := (fun x => x ≠ b24)) lt31) : z14_r0_2 = 0 ∨ g14_r0_2 ≠ b24)))
      have hb := bnd hm; clear hm; obtain ⟨x9, hx9, hm⟩ := hb
      refine sd_ev rfl rfl rfl (ev_call en_27 rfl (poly_Open_w x1 x7.1 x5.1 _ _ _ _ _ _ _ _ _ _ _ _ _ hx9 _ (Own.rd B66) (Own.rd B67) (Own.rd B68))) ?_
      rintro _ w26 ⟨rfl, Gw26⟩
      have z69 := Gw26.size
      refine sd_vv rfl rfl rfl (vv_move rfl) ?_
      refine sd_vv rfl rfl rfl (vv_extract rfl rfl) ?_
      refine sd_vv rfl rfl rfl (vv_extract rfl rfl) ?_
      refine sd_ev rfl rfl rfl (ev_alloc (cs := kb k0) zv_23 rfl) ?_
      rintro _ w27 ⟨b27, rfl, hbw27, Bw27, Gw27⟩
      have z70 := Gw27.size
      have lt71 := Bw27.lt
      refine sd_ev rfl rfl rfl (ev_stM (cs' := kb x9.1) (vs := kb x9.1) (agg_23).siz rfl rfl rfl rfl rfl Bw27 rfl rfl) ?_
      rintro _ w28 ⟨Bw28, Mw28⟩
      have z72 := Mw28.size
      refine sd_vv rfl rfl rfl (vv_assign rfl) ?_
      refine sd_done ?_
      refine sw_seq ?_
      have X73 : Gr w w28 := (Gr.md (Gr.trans (Gr.trans (Gr.md (Gr.trans (Gr.trans (Gr.md (Gr.trans (Gr.trans (Gr.md (Gr.trans (Gr.trans (Gr.md (Gr.trans (Gr.trans (Gr.trans (Gr.md (Gr.md (Gr.trans (Gr.trans (Gr.kz X13 Kw8) Gw9) Gw10) Mw11) Mw12) Gw13) Gw14) Gw15) Mw16) Gw17) Gw18) Mw19) Gw20) Gw21) Mw22) Gw23) Gw24) Mw25) Gw26) Gw27) Mw28)
      refine sw_joinD (β := Bool) [3, 5, 90, 91, 92, 93, 94, 95, 96, 97, 98, 99, 100, 101, 102, 103, 104, 105, 106, 107, 108, 109, 110, 111, 112, 113, 114, 115, 116, 117, 118, 119, 120, 121] (fun a10 => [(3, .int .i64 x5.2), (5, .int .i64 x6.2), (121, .bool a10)]) (fun a10 wr => (law04_alive_J2 a10 = some r) ∧ Kz [] w28 wr) ?_ ?_
      · clear hm; rintro a10 w29 ⟨hm, Kw29⟩
        have z74 := Kw29.size
        unfold law04_alive_J2 at hm
        refine sw_cond rfl (fun c2 => ?_) (fun c2 => ?_)
        ·
          replace hm := cnd_t c2 hm
          refine sw_seq ?_
          -- region 13 outright.go:63
          refine sw_region [(0, 0)] rfl rfl rfl ?_
          refine sd_vv rfl rfl rfl (vv_assign rfl) ?_
          refine sd_done ?_
          refine sw_ret ?_
          refine then_r ?_
          have X75 : Gr w w29 := (Gr.kz X73 Kw29)
          have hr := Option.some.inj hm
          subst hr
          refine ⟨_, _, rfl, res_1 rfl (rv_tmp rfl), ?_⟩
          exact ⟨rfl, X75⟩
        ·
          replace hm := cnd_f c2 hm
          refine sw_skip ?_
          refine then_n ?_
          refine sw_seq ?_
          -- region 14 outright.go:65
          refine sw_region [(0, 0), (1, 0), (2, 0), (3, 0), (4, 0), (5, 0), (6, 0), (7, 0)] rfl rfl rfl ?_
          have B76 := (Bx.kz (Bx.md (Bx.gr (Bx.gr (Bx.md (Bx.gr (Bx.gr (Bx.md (Bx.gr (Bx.gr B45 Gw20) Gw21) Mw22) Gw23) Gw24) Mw25) Gw26) Gw27) Mw28) Kw29)
          refine sd_vv rfl rfl rfl (vv_loadW agg_23 rfl B76 rfl) ?_
          have hb := bnd hm; clear hm; obtain ⟨x11, hx11, hm⟩ := hb
          refine sd_ev rfl rfl rfl (ev_call en_39 rfl (poly_Full_w (72057594037927936#64, 0#64) 2 _ hx11 _)) ?_
          rintro _ w30 ⟨u30_r0_1, z30_r0_1, g30_r0_1, rfl, O30_r0_1, f30_r0_1, Gw30⟩
          have z77 := Gw30.size
          have lt78 := O30_r0_1.lth
          refine sd_vv rfl rfl rfl (vv_move rfl) ?_
          refine sd_vv rfl rfl rfl (vv_extract rfl rfl) ?_
          refine sd_vv rfl rfl rfl (vv_extract rfl rfl) ?_
          refine sd_ev rfl rfl rfl (ev_alloc (cs := TPunctured.cs (TPunctured.mk 0 []) (.slice none 0 0)) zv_76 rfl) ?_
          rintro _ w31 ⟨b31, rfl, hbw31, Bw31, Gw31⟩
          have z79 := Gw31.size
          have lt80 := Bw31.lt
          have B81 := (Own.gr O30_r0_1 Gw31)
          refine sd_ev rfl rfl rfl (ev_stM (cs' := TPunctured.cs x11.1 u30_r0_1) (vs := TPunctured.cs x11.1 u30_r0_1) (agg_76).siz rfl rfl rfl rfl (TPunctured.cs_ones _ _ (Own.oneB B81)) Bw31 rfl rfl) ?_
          rintro _ w32 ⟨Bw32, Mw32⟩
          have z82 := Mw32.size
          refine sd_vv rfl rfl rfl (vv_assign rfl) ?_
          refine sd_done ?_
          refine sw_seq ?_
          -- region 15 outright.go:66
          refine sw_region [(0, 0), (1, 0), (2, 0), (3, 0), (4, 0), (5, 0), (6, 0), (7, 0)] rfl rfl rfl ?_
          refine sd_vv rfl rfl rfl (vv_loadW agg_76 rfl Bw32 rfl) ?_
          have B83 := (Own.md B81 Mw32 (tk1 ((pv_lt (A := (fun x => x ≠ b31)) lt78) : z30_r0_1 = 0 ∨ g30_r0_1 ≠ b31)))
          have hb := bnd hm; clear hm; obtain ⟨x12, hx12, hm⟩ := hb
          refine sd_ev rfl rfl rfl (ev_call en_44 rfl (poly_Puncture_w x11.1 1 _ _ _ _ _ hx12 _ (Own.rd B83))) ?_
          rintro _ w33 ⟨u33_r0_1, z33_r0_1, g33_r0_1, rfl, O33_r0_1, f33_r0_1, Gw33⟩
          have z84 := Gw33.size
          have lt85 := O33_r0_1.lth
          refine sd_vv rfl rfl rfl (vv_move rfl) ?_
          refine sd_vv rfl rfl rfl (vv_extract rfl rfl) ?_
          refine sd_vv rfl rfl rfl (vv_extract rfl rfl) ?_
          refine sd_ev rfl rfl rfl (ev_alloc (cs := TPunctured.cs (TPunctured.mk 0 []) (.slice none 0 0)) zv_76 rfl) ?_
          rintro _ w34 ⟨b34, rfl, hbw34, Bw34, Gw34⟩
          have z86 := Gw34.size
          have lt87 := Bw34.lt
          have B88 := (Own.gr O33_r0_1 Gw34)
          refine sd_ev rfl rfl rfl (ev_stM (cs' := TPunctured.cs x12.1 u33_r0_1) (vs := TPunctured.cs x12.1 u33_r0_1) (agg_76).siz rfl rfl rfl rfl (TPunctured.cs_ones _ _ (Own.oneB B88)) Bw34 rfl rfl) ?_
          rintro _ w35 ⟨Bw35, Mw35⟩
          have z89 := Mw35.size
          refine sd_vv rfl rfl rfl (vv_assign rfl) ?_
          refine sd_done ?_
          refine sw_seq ?_
          -- region 16 outright.go:67
          refine sw_region [(0, 0), (1, 0), (2, 0), (3, 0), (4, 0), (5, 0)] rfl rfl rfl ?_
          refine sd_vv rfl rfl rfl (vv_loadW agg_76 rfl Bw35 rfl) ?_
          have B90 := (Own.md B88 Mw35 (tk1 ((pv_lt (A := (fun x => x ≠ b34)) lt85) : z33_r0_1 = 0 ∨ g33_r0_1 ≠ b34)))
          have hb := bnd hm; clear hm; obtain ⟨x13, hx13, hm⟩ := hb
          refine sd_ev rfl rfl rfl (ev_call en_46 rfl (poly_Evaluate_w x12.1 1 _ _ _ _ _ hx13 _ (Own.rd B90))) ?_
          rintro _ w36 ⟨rfl, Gw36⟩
          have z91 := Gw36.size
          refine sd_vv rfl rfl rfl (vv_move rfl) ?_
          refine sd_vv rfl rfl rfl (vv_extract rfl rfl) ?_
          refine sd_vv rfl rfl rfl (vv_extract rfl rfl) ?_
          refine sd_vv rfl rfl rfl (vv_assign rfl) ?_
          refine sd_done ?_
          refine sw_seq ?_
          -- region 17 outright.go:68
          refine sw_region [(0, 0), (1, 0), (2, 0), (3, 0), (4, 0), (5, 0), (6, 0), (7, 0)] rfl rfl rfl ?_
          have B92 := (Bx.gr Bw35 Gw36)
          refine sd_vv rfl rfl rfl (vv_loadW agg_76 rfl B92 rfl) ?_
          have B93 := (Own.gr B90 Gw36)
          have hb := bnd hm; clear hm; obtain ⟨x14, hx14, hm⟩ := hb
          refine sd_ev rfl rfl rfl (ev_call en_46 rfl (poly_Evaluate_w x12.1 0 _ _ _ _ _ hx14 _ (Own.rd B93))) ?_
          rintro _ w37 ⟨rfl, Gw37⟩
          have z94 := Gw37.size
          refine sd_vv rfl rfl rfl (vv_move rfl) ?_
          refine sd_vv rfl rfl rfl (vv_extract rfl rfl) ?_
          refine sd_vv rfl rfl rfl (vv_extract rfl rfl) ?_
          refine sd_ev rfl rfl rfl (ev_alloc (cs := kb k0) zv_23 rfl) ?_
          rintro _ w38 ⟨b38, rfl, hbw38, Bw38, Gw38⟩
          have z95 := Gw38.size
          have lt96 := Bw38.lt
          refine sd_ev rfl rfl rfl (ev_stM (cs' := kb x14.1) (vs := kb x14.1) (agg_23).siz rfl rfl rfl rfl rfl Bw38 rfl rfl) ?_
          rintro _ w39 ⟨Bw39, Mw39⟩
          have z97 := Mw39.size
          refine sd_vv rfl rfl rfl (vv_assign rfl) ?_
          refine sd_done ?_
          refine sw_seq ?_
          -- region 18 outright.go:69
          refine sw_region [(0, 0), (1, 0), (2, 0), (3, 0), (4, 0), (5, 0), (6, 0), (7, 0)] rfl rfl rfl ?_
          have B98 := (Bx.md (Bx.gr (Bx.gr (Bx.gr (Bx.md (Bx.gr (Bx.gr Bw32 Gw33) Gw34) Mw35) Gw36) Gw37) Gw38) Mw39)
          refine sd_vv rfl rfl rfl (vv_loadW agg_76 rfl B98 rfl) ?_
          have B99 := (Own.md (Own.gr (Own.gr (Own.gr (Own.md (Own.gr (Own.gr B83 Gw33) Gw34) Mw35 (tk1 ((pv_lt (A := (fun x => x ≠ b34)) lt78) : z30_r0_1 = 0 ∨ g30_r0_1 ≠ b34))) Gw36) Gw37) Gw38) Mw39 (tk1 ((pv_lt (A := (fun x => x ≠ b38)) lt78) : z30_r0_1 = 0 ∨ g30_r0_1 ≠ b38)))
          have hb := bnd hm; clear hm; obtain ⟨x15, hx15, hm⟩ := hb
          refine sd_ev rfl rfl rfl (ev_call en_46 rfl (poly_Evaluate_w x11.1 0 _ _ _ _ _ hx15 _ (Own.rd B99))) ?_
          rintro _ w40 ⟨rfl, Gw40⟩
          have z100 := Gw40.size
          refine sd_vv rfl rfl rfl (vv_move rfl) ?_
          refine sd_vv rfl rfl rfl (vv_extract rfl rfl) ?_
          refine sd_vv rfl rfl rfl (vv_extract rfl rfl) ?_
          refine sd_ev rfl rfl rfl (ev_alloc (cs := kb k0) zv_23 rfl) ?_
          rintro _ w41 ⟨b41, rfl, hbw41, Bw41, Gw41⟩
          have z101 := Gw41.size
          have lt102 := Bw41.lt
          refine sd_ev rfl rfl rfl (ev_stM (cs' := kb x15.1) (vs := kb x15.1) (agg_23).siz rfl rfl rfl rfl rfl Bw41 rfl rfl) ?_
          rintro _ w42 ⟨Bw42, Mw42⟩
          have z103 := Mw42.size
          refine sd_vv rfl rfl rfl (vv_assign rfl) ?_
          refine sd_done ?_
          refine sw_seq ?_
          -- region 19 outright.go:70
          refine sw_region [(0, 0), (1, 0), (2, 0), (3, 0), (4, 0), (5, 0), (6, 0), (7, 0), (8, 0), (9, 0), (10, 0), (11, 0), (12, 0), (13, 0), (14, 0), (15, 0), (16, 0), (17, 0), (18, 0), (19, 0), (20, 0), (21, 0), (22, 0), (23, 0), (24, 0), (25, 0), (26, 0), (27, 0)] rfl rfl rfl ?_
          have B104 := (Bx.md (Bx.gr (Bx.gr B98 Gw40) Gw41) Mw42)
          refine sd_vv rfl rfl rfl (vv_loadW agg_76 rfl B104 rfl) ?_
          refine sd_vv rfl rfl rfl (vv_move rfl) ?_
          refine sd_ev rfl rfl rfl (ev_litT [1] ic bsl_41_1 rfl rfl (ws_of rfl) rfl rfl rfl) ?_
          rintro vw43 w43 ⟨gw43, hbw43, Ow43, Gw43⟩
          have z105 := Gw43.size
          have lt106 := Ow43.lth
          have B107 := (Own.gr (Own.md (Own.gr (Own.gr B99 Gw40) Gw41) Mw42 (tk1 ((pv_lt (A := (fun x => x ≠ b41)) lt78) : z30_r0_1 = 0 ∨ g30_r0_1 ≠ b41))) Gw43)
          have hb := bnd hm; clear hm; obtain ⟨x16, hx16, hm⟩ := hb
          refine sd_ev rfl rfl rfl (ev_call en_51 rfl (law04_nodes_w x11.1 x11.2 [1] _ _ _ _ _ _ _ _ _ hx16 _ (Own.rd B107) (Own.rd Ow43))) ?_
          rintro _ w44 ⟨rfl, Gw44⟩
          have z108 := Gw44.size
          refine sd_split rfl rfl rfl (vv_move rfl) (fun c3 => ?_) (fun c3 => ?_)
          ·
            replace hm := cnd_t c3 hm
            have B109 := (Bx.gr (Bx.gr (Bx.md (Bx.gr (Bx.gr (Bx.md (Bx.gr (Bx.gr B92 Gw37) Gw38) Mw39) Gw40) Gw41) Mw42) Gw43) Gw44)
            refine sd_vv rfl rfl rfl (vv_loadW agg_76 rfl B109 rfl) ?_
            refine sd_vv rfl rfl rfl (vv_move rfl) ?_
            refine sd_ev rfl rfl rfl (ev_litT [3, 4] ic bsl_41_2 rfl rfl (ws_of rfl) rfl rfl rfl) ?_
            rintro vw45 w45 ⟨gw45, hbw45, Ow45, Gw45⟩
            have z110 := Gw45.size
            have lt111 := Ow45.lth
            have B112 := (Own.gr (Own.gr (Own.gr (Own.md (Own.gr (Own.gr (Own.md (Own.gr (Own.gr B93 Gw37) Gw38) Mw39 (tk1 ((pv_lt (A := (fun x => x ≠ b38)) lt85) : z33_r0_1 = 0 ∨ g33_r0_1 ≠ b38))) Gw40) Gw41) Mw42 (tk1 ((pv_lt (A := (fun x => x ≠ b41)) lt85) : z33_r0_1 = 0 ∨ g33_r0_1 ≠ b41))) Gw43) Gw44) Gw45)
            have hb := bnd hm; clear hm; obtain ⟨x17, hx17, hm⟩ := hb
            refine sd_ev rfl rfl rfl (ev_call en_51 rfl (law04_nodes_w x12.1 x12.2 [3, 4] _ _ _ _ _ _ _ _ _ hx17 _ (Own.rd B112) (Own.rd Ow45))) ?_
            rintro _ w46 ⟨rfl, Gw46⟩
            have z113 := Gw46.size
            refine sd_vv rfl rfl rfl (vv_pickT rfl rfl) ?_
            refine sd_split rfl rfl rfl (vv_move rfl) (fun c4 => ?_) (fun c4 => ?_)
            ·
              replace hm := cnd_t c4 hm
              refine sd_vv rfl rfl rfl (vv_move rfl) ?_
              refine sd_vv rfl rfl rfl (vv_eql (a := x13.2) (b := 6) rfl rfl) ?_
              refine sd_vv rfl rfl rfl (vv_pickT rfl rfl) ?_
              refine sd_split rfl rfl rfl (vv_move rfl) (fun c5 => ?_) (fun c5 => ?_)
              ·
                replace hm := ite_t (of_decide_eq_true c5) hm
                refine sd_vv rfl rfl rfl (vv_move rfl) ?_
                refine sd_vv rfl rfl rfl (vv_eql (a := x14.2) (b := 0) rfl rfl) ?_
                refine sd_vv rfl rfl rfl (vv_pickT rfl rfl) ?_
                refine sd_split rfl rfl rfl (vv_move rfl) (fun c6 => ?_) (fun c6 => ?_)
                ·
                  replace hm := ite_t (of_decide_eq_true c6) hm
                  refine sd_vv rfl rfl rfl (vv_move rfl) ?_
                  refine sd_vv rfl rfl rfl (vv_eql (a := x15.2) (b := 0) rfl rfl) ?_
                  refine sd_vv rfl rfl rfl (vv_pickT rfl rfl) ?_
                  refine sd_split rfl rfl rfl (vv_move rfl) (fun c7 => ?_) (fun c7 => ?_)
                  ·
                    replace hm := ite_t (of_decide_eq_true c7) hm
                    have B114 := (Bx.gr (Bx.gr (Bx.gr (Bx.gr (Bx.md (Bx.gr (Bx.gr Bw39 Gw40) Gw41) Mw42) Gw43) Gw44) Gw45) Gw46)
                    refine sd_vv rfl rfl rfl (vv_loadW agg_23 rfl B114 rfl) ?_
                    have B115 := (Bx.gr (Bx.gr (Bx.gr (Bx.gr Bw42 Gw43) Gw44) Gw45) Gw46)
                    refine sd_vv rfl rfl rfl (vv_loadW agg_23 rfl B115 rfl) ?_
                    refine sd_vv rfl rfl rfl (vv_eqlS (cf := kb) (a := x14.1) (b := x15.1) eqt_23 rfl rfl rfl rfl (fun h => kb_inj h)) ?_
                    refine sd_vv rfl rfl rfl (vv_pickT rfl rfl) ?_
                    refine sd_vv rfl rfl rfl (vv_assign rfl) ?_
                    refine sd_done ?_
                    refine sw_ret ?_
                    have X116 : Gr w w46 := (Gr.trans (Gr.trans (Gr.trans (Gr.trans (Gr.md (Gr.trans (Gr.trans (Gr.md (Gr.trans (Gr.trans (Gr.trans (Gr.md (Gr.trans (Gr.trans (Gr.md (Gr.trans (Gr.trans (Gr.kz X73 Kw29) Gw30) Gw31) Mw32) Gw33) Gw34) Mw35) Gw36) Gw37) Gw38) Mw39) Gw40) Gw41) Mw42) Gw43) Gw44) Gw45) Gw46)
                    have hr := Option.some.inj hm
                    subst hr
                    refine ⟨_, _, rfl, res_1 rfl (rv_tmp rfl), ?_⟩
                    exact ⟨rfl, X116⟩
                  ·
                    replace hm := ite_f (of_decide_eq_false c7) hm
                    refine sd_skip rfl rfl rfl ?_
                    refine sd_skip rfl rfl rfl ?_
                    refine sd_skip rfl rfl rfl ?_
                    refine sd_vv rfl rfl rfl (vv_pickF rfl rfl) ?_
                    refine sd_vv rfl rfl rfl (vv_assign rfl) ?_
                    refine sd_done ?_
                    refine sw_ret ?_
                    have X117 : Gr w w46 := (Gr.trans (Gr.trans (Gr.trans (Gr.trans (Gr.md (Gr.trans (Gr.trans (Gr.md (Gr.trans (Gr.trans (Gr.trans (Gr.md (Gr.trans (Gr.trans (Gr.md (Gr.trans (Gr.trans (Gr.kz X73 Kw29) Gw30) Gw31) Mw32) Gw33) Gw34) Mw35) Gw36) Gw37) Gw38) Mw39) Gw40) Gw41) Mw42) Gw43) Gw44) Gw45) Gw46)
                    have hr := Option.some.inj hm
                    subst hr
                    refine ⟨_, _, rfl, res_1 rfl (rv_tmp rfl), ?_⟩
                    exact ⟨rfl, X117⟩
                ·
                  replace hm := ite_f (of_decide_eq_false c6) hm
                  refine sd_skip rfl rfl rfl ?_
                  refine sd_skip rfl rfl rfl ?_
                  refine sd_vv rfl rfl rfl (vv_pickF rfl rfl) ?_
                  refine sd_vv rfl rfl rfl (vv_move rfl) ?_
                  refine sd_skip rfl rfl rfl ?_
                  refine sd_skip rfl rfl rfl ?_
                  refine sd_skip rfl rfl rfl ?_
                  refine sd_vv rfl rfl rfl (vv_pickF rfl rfl) ?_
                  refine sd_vv rfl rfl rfl (vv_assign rfl) ?_
                  refine sd_done ?_
                  refine sw_ret ?_
                  have X118 : Gr w w46 := (Gr.trans (Gr.trans (Gr.trans (Gr.trans (Gr.md (Gr.trans (Gr.trans (Gr.md (Gr.trans (Gr.trans (Gr.trans (Gr.md (Gr.trans (Gr.trans (Gr.md (Gr.trans (Gr.trans (Gr.kz X73 Kw29) Gw30) Gw31) Mw32) Gw33) Gw34) Mw35) Gw36) Gw37) Gw38) Mw39) Gw40) Gw41) Mw42) Gw43) Gw44) Gw45) Gw46)
                  have hr := Option.some.inj hm
                  subst hr
                  refine ⟨_, _, rfl, res_1 rfl (rv_tmp rfl), ?_⟩
                  exact ⟨rfl, X118⟩
              ·
                replace hm := ite_f (of_decide_eq_false c5) hm
                refine sd_skip rfl rfl rfl ?_
                refine sd_skip rfl rfl rfl ?_
                refine sd_vv rfl rfl rfl (vv_pickF rfl rfl) ?_
                refine sd_vv rfl rfl rfl (vv_move rfl) ?_
                refine sd_skip rfl rfl rfl ?_
                refine sd_skip rfl rfl rfl ?_
                refine sd_vv rfl rfl rfl (vv_pickF rfl rfl) ?_
                refine sd_vv rfl rfl rfl (vv_move rfl) ?_
                refine sd_skip rfl rfl rfl ?_
                refine sd_skip rfl rfl rfl ?_
                refine sd_skip rfl rfl rfl ?_
                refine sd_vv rfl rfl rfl (vv_pickF rfl rfl) ?_
                refine sd_vv rfl rfl rfl (vv_assign rfl) ?_
                refine sd_done ?_
                refine sw_ret ?_
                have X119 : Gr w w46 := (Gr.trans (Gr.trans (Gr.trans (Gr.trans (Gr.md (Gr.trans (Gr.trans (Gr.md (Gr.trans (Gr.trans (Gr.trans (Gr.md (Gr.trans (Gr.trans (Gr.md (Gr.trans (Gr.trans (Gr.kz X73 Kw29) Gw30) Gw31) Mw32) Gw33) Gw34) Mw35) Gw36) Gw37) Gw38) Mw39) Gw40) Gw41) Mw42) Gw43) Gw44) Gw45) Gw46)
                have hr := Option.some.inj hm
                subst hr
                refine ⟨_, _, rfl, res_1 rfl (rv_tmp rfl), ?_⟩
                exact ⟨rfl, X119⟩
            ·
              replace hm := cnd_f c4 hm
              refine sd_skip rfl rfl rfl ?_
              refine sd_skip rfl rfl rfl ?_
              refine sd_vv rfl rfl rfl (vv_pickF rfl rfl) ?_
              refine sd_vv rfl rfl rfl (vv_move rfl) ?_
              refine sd_skip rfl rfl rfl ?_
              refine sd_skip rfl rfl rfl ?_
              refine sd_vv rfl rfl rfl (vv_pickF rfl rfl) ?_
              refine sd_vv rfl rfl rfl (vv_move rfl) ?_
              refine sd_skip rfl rfl rfl ?_
              refine sd_skip rfl rfl rfl ?_
              refine sd_vv rfl rfl rfl (vv_pickF rfl rfl) ?_
              refine sd_vv rfl rfl rfl (vv_move rfl) ?_
              refine sd_skip rfl rfl rfl ?_
              refine sd_skip rfl rfl rfl ?_
              refine sd_skip rfl rfl rfl ?_
              refine sd_vv rfl rfl rfl (vv_pickF rfl rfl) ?_
              refine sd_vv rfl rfl rfl (vv_assign rfl) ?_
              refine sd_done ?_
              refine sw_ret ?_
              have X120 : Gr w w46 := (Gr.trans (Gr.trans (Gr.trans (Gr.trans (Gr.md (Gr.trans (Gr.trans (Gr.md (Gr.trans (Gr.trans (Gr.trans (Gr.md (Gr.trans (Gr.trans (Gr.md (Gr.trans (Gr.trans (Gr.kz X73 Kw29) Gw30) Gw31) Mw32) Gw33) Gw34) Mw35) Gw36) Gw37) Gw38) Mw39) Gw40) Gw41) Mw42) Gw43) Gw44) Gw45) Gw46)
              have hr := Option.some.inj hm
              subst hr
              refine ⟨_, _, rfl, res_1 rfl (rv_tmp rfl), ?_⟩
              exact ⟨rfl, X120⟩
          ·
            replace hm := cnd_f c3 hm
            refine sd_skip rfl rfl rfl ?_
            refine sd_skip rfl rfl rfl ?_
            refine sd_skip rfl rfl rfl ?_
            refine sd_skip rfl rfl rfl ?_
            refine sd_vv rfl rfl rfl (vv_pickF rfl rfl) ?_
            refine sd_vv rfl rfl rfl (vv_move rfl) ?_
            refine sd_skip rfl rfl rfl ?_
            refine sd_skip rfl rfl rfl ?_
            refine sd_vv rfl rfl rfl (vv_pickF rfl rfl) ?_
            refine sd_vv rfl rfl rfl (vv_move rfl) ?_
            refine sd_skip rfl rfl rfl ?_
            refine sd_skip rfl rfl rfl ?_
            refine sd_vv rfl rfl rfl (vv_pickF rfl rfl) ?_
            refine sd_vv rfl rfl rfl (vv_move rfl) ?_
            refine sd_skip rfl rfl rfl ?_
            refine sd_skip rfl rfl rfl ?_
            refine sd_vv rfl rfl rfl (vv_pickF rfl rfl) ?_
            refine sd_vv rfl rfl rfl (vv_move rfl) ?_
            refine sd_skip rfl rfl rfl ?_
            refine sd_skip rfl rfl rfl ?_
            refine sd_skip rfl rfl rfl ?_
            refine sd_vv rfl rfl rfl (vv_pickF rfl rfl) ?_
            refine sd_vv rfl rfl rfl (vv_assign rfl) ?_
            refine sd_done ?_
            refine sw_ret ?_
            have X121 : Gr w w44 := (Gr.trans (Gr.trans (Gr.md (Gr.trans (Gr.trans (Gr.md (Gr.trans (Gr.trans (Gr.trans (Gr.md (Gr.trans (Gr.trans (Gr.md (Gr.trans (Gr.trans (Gr.kz X73 Kw29) Gw30) Gw31) Mw32) Gw33) Gw34) Mw35) Gw36) Gw37) Gw38) Mw39) Gw40) Gw41) Mw42) Gw43) Gw44)
            have hr := Option.some.inj hm
            subst hr
            refine ⟨_, _, rfl, res_1 rfl (rv_tmp rfl), ?_⟩
            exact ⟨rfl, X121⟩
      ·
        -- region 12 outright.go:62
        refine sw_region [(0, 0), (1, 0), (2, 0), (3, 0), (4, 0), (5, 0), (6, 0), (7, 0), (8, 0), (9, 0), (10, 0), (11, 0), (12, 0), (13, 0), (14, 0), (15, 0), (16, 0), (17, 0), (18, 0), (19, 0), (20, 0), (21, 0), (22, 0), (23, 0), (24, 0), (25, 0), (26, 0), (27, 0), (28, 0), (29, 0), (30, 0), (31, 0)] rfl rfl rfl ?_
        have B122 := (Bx.md (Bx.gr (Bx.gr B65 Gw26) Gw27) Mw28)
        refine sd_vv rfl rfl rfl (vv_loadW agg_45 rfl B122 rfl) ?_
        refine sd_vv rfl rfl rfl (vv_move rfl) ?_
        refine sd_ev rfl rfl rfl (ev_litT [2#64, 5#64] uwc bsl_60_2 rfl rfl (ws_of rfl) rfl rfl rfl) ?_
        rintro vw47 w47 ⟨gw47, hbw47, Ow47, Gw47⟩
        have z123 := Gw47.size
        have lt124 := Ow47.lth
        have B125 := (Own.gr (Own.md (Own.gr (Own.gr B67 Gw26) Gw27) Mw28 (tk1 ((pv_lt (A := (fun x => x ≠ b27)) lt30) : z14_r0_0 = 0 ∨ g14_r0_0 ≠ b27))) Gw47)
        have B126 := (Own.gr (Own.md (Own.gr (Own.gr B68 Gw26) Gw27) Mw28 (tk1 ((pv_lt (A := (fun x => x ≠ b27)) lt31) : z14_r0_2 = 0 ∨ g14_r0_2 ≠ b27))) Gw47)
        have hb := bnd hm; clear hm; obtain ⟨x18, hx18, hm⟩ := hb
        refine sd_ev rfl rfl rfl (ev_call en_50 rfl (law04_points_w x5.1 x5.2 [2#64, 5#64] _ _ _ _ _ _ _ _ _ _ _ _ _ hx18 _ (Own.rd B125) (Own.rd B126) (Own.rd Ow47))) ?_
        rintro _ w48 ⟨rfl, Gw48⟩
        have z127 := Gw48.size
        refine sd_vv rfl rfl rfl (vv_not rfl) ?_
        refine sd_split rfl rfl rfl (vv_move rfl) (fun c8 => ?_) (fun c8 => ?_)
        ·
          replace hm := cnd_t c8 hm
          refine sd_skip rfl rfl rfl ?_
          refine sd_skip rfl rfl rfl ?_
          refine sd_vv rfl rfl rfl (vv_pickT rfl rfl) ?_
          refine sd_vv rfl rfl rfl (vv_move rfl) ?_
          refine sd_skip rfl rfl rfl ?_
          refine sd_skip rfl rfl rfl ?_
          refine sd_skip rfl rfl rfl ?_
          refine sd_skip rfl rfl rfl ?_
          refine sd_vv rfl rfl rfl (vv_pickT rfl rfl) ?_
          refine sd_vv rfl rfl rfl (vv_move rfl) ?_
          refine sd_skip rfl rfl rfl ?_
          refine sd_skip rfl rfl rfl ?_
          refine sd_vv rfl rfl rfl (vv_pickT rfl rfl) ?_
          refine sd_vv rfl rfl rfl (vv_move rfl) ?_
          refine sd_skip rfl rfl rfl ?_
          refine sd_skip rfl rfl rfl ?_
          refine sd_vv rfl rfl rfl (vv_pickT rfl rfl) ?_
          refine sd_vv rfl rfl rfl (vv_move rfl) ?_
          refine sd_skip rfl rfl rfl ?_
          refine sd_skip rfl rfl rfl ?_
          refine sd_skip rfl rfl rfl ?_
          refine sd_vv rfl rfl rfl (vv_pickT rfl rfl) ?_
          refine sd_vv rfl rfl rfl (vv_move rfl) ?_
          refine sd_skip rfl rfl rfl ?_
          refine sd_skip rfl rfl rfl ?_
          refine sd_vv rfl rfl rfl (vv_pickT rfl rfl) ?_
          refine sd_nil ?_
          have K_128 : Kz [] w28 w48 := (Kz.gr (Kz.gr (Kz.refl _ _) Gw47) Gw48)
          refine ⟨rfl, true, ?_, hm, K_128⟩
          repeat' first | exact trivial | refine ⟨rfl, ?_⟩
        ·
          replace hm := cnd_f c8 hm
          refine sd_vv rfl rfl rfl (vv_move rfl) ?_
          refine sd_vv rfl rfl rfl (vv_neq (a := x6.2) (b := 0) rfl rfl) ?_
          refine sd_vv rfl rfl rfl (vv_pickF rfl rfl) ?_
          refine sd_split rfl rfl rfl (vv_move rfl) (fun c9 => ?_) (fun c9 => ?_)
          ·
            replace hm := ite_t (of_decide_eq_true c9) hm
            refine sd_skip rfl rfl rfl ?_
            refine sd_skip rfl rfl rfl ?_
            refine sd_skip rfl rfl rfl ?_
            refine sd_skip rfl rfl rfl ?_
            refine sd_vv rfl rfl rfl (vv_pickT rfl rfl) ?_
            refine sd_vv rfl rfl rfl (vv_move rfl) ?_
            refine sd_skip rfl rfl rfl ?_
            refine sd_skip rfl rfl rfl ?_
            refine sd_vv rfl rfl rfl (vv_pickT rfl rfl) ?_
            refine sd_vv rfl rfl rfl (vv_move rfl) ?_
            refine sd_skip rfl rfl rfl ?_
            refine sd_skip rfl rfl rfl ?_
            refine sd_vv rfl rfl rfl (vv_pickT rfl rfl) ?_
            refine sd_vv rfl rfl rfl (vv_move rfl) ?_
            refine sd_skip rfl rfl rfl ?_
            refine sd_skip rfl rfl rfl ?_
            refine sd_skip rfl rfl rfl ?_
            refine sd_vv rfl rfl rfl (vv_pickT rfl rfl) ?_
            refine sd_vv rfl rfl rfl (vv_move rfl) ?_
            refine sd_skip rfl rfl rfl ?_
            refine sd_skip rfl rfl rfl ?_
            refine sd_vv rfl rfl rfl (vv_pickT rfl rfl) ?_
            refine sd_nil ?_
            have K_129 : Kz [] w28 w48 := (Kz.gr (Kz.gr (Kz.refl _ _) Gw47) Gw48)
            refine ⟨rfl, true, ?_, hm, K_129⟩
            repeat' first | exact trivial | refine ⟨rfl, ?_⟩
          ·
            replace hm := ite_f (of_decide_eq_false c9) hm
            refine sd_vv rfl rfl rfl (vv_fieldAddr fa_33_2 rfl) ?_
            refine sd_vv rfl rfl rfl (vv_fieldAddr fa_31_0 rfl) ?_
            have B130 := (Bx.gr (Bx.gr (Bx.md (Bx.gr (Bx.gr (Bx.md (Bx.gr (Bx.gr B54 Gw23) Gw24) Mw25) Gw26) Gw27) Mw28) Gw47) Gw48)
            refine sd_vv rfl rfl rfl (vv_load1 (v := wv x6.1.Share.X) one_24 rfl B130 rfl) ?_
            refine sd_vv rfl rfl rfl (vv_neqU (c := x6.1.Share.X) (d := 1#64) rfl rfl) ?_
            refine sd_vv rfl rfl rfl (vv_pickF rfl rfl) ?_
            refine sd_split rfl rfl rfl (vv_move rfl) (fun c10 => ?_) (fun c10 => ?_)
            ·
              replace hm := ite_t (of_decide_eq_true c10) hm
              refine sd_skip rfl rfl rfl ?_
              refine sd_skip rfl rfl rfl ?_
              refine sd_vv rfl rfl rfl (vv_pickT rfl rfl) ?_
              refine sd_vv rfl rfl rfl (vv_move rfl) ?_
              refine sd_skip rfl rfl rfl ?_
              refine sd_skip rfl rfl rfl ?_
              refine sd_vv rfl rfl rfl (vv_pickT rfl rfl) ?_
              refine sd_vv rfl rfl rfl (vv_move rfl) ?_
              refine sd_skip rfl rfl rfl ?_
              refine sd_skip rfl rfl rfl ?_
              refine sd_skip rfl rfl rfl ?_
              refine sd_vv rfl rfl rfl (vv_pickT rfl rfl) ?_
              refine sd_vv rfl rfl rfl (vv_move rfl) ?_
              refine sd_skip rfl rfl rfl ?_
              refine sd_skip rfl rfl rfl ?_
              refine sd_vv rfl rfl rfl (vv_pickT rfl rfl) ?_
              refine sd_nil ?_
              have K_131 : Kz [] w28 w48 := (Kz.gr (Kz.gr (Kz.refl _ _) Gw47) Gw48)
              refine ⟨rfl, true, ?_, hm, K_131⟩
              repeat' first | exact trivial | refine ⟨rfl, ?_⟩
            ·
              replace hm := ite_f (of_decide_eq_false c10) hm
              refine sd_vv rfl rfl rfl (vv_move rfl) ?_
              refine sd_vv rfl rfl rfl (vv_neq (a := x7.2) (b := 0) rfl rfl) ?_
              refine sd_vv rfl rfl rfl (vv_pickF rfl rfl) ?_
              refine sd_split rfl rfl rfl (vv_move rfl) (fun c11 => ?_) (fun c11 => ?_)
              ·
                replace hm := ite_t (of_decide_eq_true c11) hm
                refine sd_skip rfl rfl rfl ?_
                refine sd_skip rfl rfl rfl ?_
                refine sd_vv rfl rfl rfl (vv_pickT rfl rfl) ?_
                refine sd_vv rfl rfl rfl (vv_move rfl) ?_
                refine sd_skip rfl rfl rfl ?_
                refine sd_skip rfl rfl rfl ?_
                refine sd_skip rfl rfl rfl ?_
                refine sd_vv rfl rfl rfl (vv_pickT rfl rfl) ?_
                refine sd_vv rfl rfl rfl (vv_move rfl) ?_
                refine sd_skip rfl rfl rfl ?_
                refine sd_skip rfl rfl rfl ?_
                refine sd_vv rfl rfl rfl (vv_pickT rfl rfl) ?_
                refine sd_nil ?_
                have K_132 : Kz [] w28 w48 := (Kz.gr (Kz.gr (Kz.refl _ _) Gw47) Gw48)
                refine ⟨rfl, true, ?_, hm, K_132⟩
                repeat' first | exact trivial | refine ⟨rfl, ?_⟩
              ·
                replace hm := ite_f (of_decide_eq_false c11) hm
                refine sd_vv rfl rfl rfl (vv_move rfl) ?_
                refine sd_vv rfl rfl rfl (vv_neq (a := x8.2) (b := 0) rfl rfl) ?_
                refine sd_vv rfl rfl rfl (vv_pickF rfl rfl) ?_
                refine sd_split rfl rfl rfl (vv_move rfl) (fun c12 => ?_) (fun c12 => ?_)
                ·
                  replace hm := ite_t (of_decide_eq_true c12) hm
                  refine sd_skip rfl rfl rfl ?_
                  refine sd_skip rfl rfl rfl ?_
                  refine sd_skip rfl rfl rfl ?_
                  refine sd_vv rfl rfl rfl (vv_pickT rfl rfl) ?_
                  refine sd_vv rfl rfl rfl (vv_move rfl) ?_
                  refine sd_skip rfl rfl rfl ?_
                  refine sd_skip rfl rfl rfl ?_
                  refine sd_vv rfl rfl rfl (vv_pickT rfl rfl) ?_
                  refine sd_nil ?_
                  have K_133 : Kz [] w28 w48 := (Kz.gr (Kz.gr (Kz.refl _ _) Gw47) Gw48)
                  refine ⟨rfl, true, ?_, hm, K_133⟩
                  repeat' first | exact trivial | refine ⟨rfl, ?_⟩
                ·
                  replace hm := ite_f (of_decide_eq_false c12) hm
                  have B134 := (Bx.gr (Bx.gr (Bx.md (Bx.gr (Bx.gr Bw25 Gw26) Gw27) Mw28) Gw47) Gw48)
                  refine sd_vv rfl rfl rfl (vv_loadW agg_23 rfl B134 rfl) ?_
                  have B135 := (Bx.gr (Bx.gr (Bx.md (Bx.gr (Bx.gr (Bx.md (Bx.gr (Bx.gr (Bx.md (Bx.gr (Bx.gr (Bx.md (Bx.gr (Bx.gr (Bx.md (Bx.gr (Bx.gr B28 Gw14) Gw15) Mw16) Gw17) Gw18) Mw19) Gw20) Gw21) Mw22) Gw23) Gw24) Mw25) Gw26) Gw27) Mw28) Gw47) Gw48)
                  refine sd_vv rfl rfl rfl (vv_loadW agg_23 rfl B135 rfl) ?_
                  refine sd_vv rfl rfl rfl (vv_neqS (cf := kb) (a := x8.1) (b := (144115188075855872#64, 0#64)) eqt_23 rfl rfl rfl rfl (fun h => kb_inj h)) ?_
                  refine sd_vv rfl rfl rfl (vv_pickF rfl rfl) ?_
                  refine sd_split rfl rfl rfl (vv_move rfl) (fun c13 => ?_) (fun c13 => ?_)
                  ·
                    replace hm := ite_t (of_decide_eq_true c13) hm
                    refine sd_skip rfl rfl rfl ?_
                    refine sd_skip rfl rfl rfl ?_
                    refine sd_vv rfl rfl rfl (vv_pickT rfl rfl) ?_
                    refine sd_nil ?_
                    have K_136 : Kz [] w28 w48 := (Kz.gr (Kz.gr (Kz.refl _ _) Gw47) Gw48)
                    refine ⟨rfl, true, ?_, hm, K_136⟩
                    repeat' first | exact trivial | refine ⟨rfl, ?_⟩
                  ·
                    replace hm := ite_f (of_decide_eq_false c13) hm
                    refine sd_vv rfl rfl rfl (vv_move rfl) ?_
                    refine sd_vv rfl rfl rfl (vv_neq (a := x9.2) (b := 6) rfl rfl) ?_
                    refine sd_vv rfl rfl rfl (vv_pickF rfl rfl) ?_
                    refine sd_nil ?_
                    have K_137 : Kz [] w28 w48 := (Kz.gr (Kz.gr (Kz.refl _ _) Gw47) Gw48)
                    refine ⟨rfl, (decide (x9.2 ≠ 6)), ?_, hm, K_137⟩
                    repeat' first | exact trivial | refine ⟨rfl, ?_⟩
  ·
    -- region 4 outright.go:53
    refine sw_region [(0, 0), (1, 0), (2, 0), (3, 0), (4, 0), (5, 0), (6, 0), (7, 0), (8, 0), (9, 0), (10, 0), (11, 0), (12, 0), (13, 0), (14, 0), (15, 0), (16, 0), (17, 0)] rfl rfl rfl ?_
    have B138 := (Bx.gr (Bx.gr B8 Gw6) Gw7)
    refine sd_vv rfl rfl rfl (vv_loadW agg_28 rfl B138 rfl) ?_
    have hb := bnd hm; clear hm; obtain ⟨x19, hx19, hm⟩ := hb
    refine sd_ev rfl rfl rfl (ev_call en_32 rfl (poly_Check_w x1 _ hx19 _)) ?_
    rintro _ w49 ⟨rfl, Gw49⟩
    have z139 := Gw49.size
    refine sd_vv rfl rfl rfl (vv_neq (a := x19) (b := 0) rfl rfl) ?_
    refine sd_split rfl rfl rfl (vv_move rfl) (fun c14 => ?_) (fun c14 => ?_)
    ·
      replace hm := ite_t (of_decide_eq_true c14) hm
      refine sd_skip rfl rfl rfl ?_
      refine sd_skip rfl rfl rfl ?_
      refine sd_vv rfl rfl rfl (vv_pickT rfl rfl) ?_
      refine sd_vv rfl rfl rfl (vv_move rfl) ?_
      refine sd_skip rfl rfl rfl ?_
      refine sd_skip rfl rfl rfl ?_
      refine sd_vv rfl rfl rfl (vv_pickT rfl rfl) ?_
      refine sd_vv rfl rfl rfl (vv_move rfl) ?_
      refine sd_skip rfl rfl rfl ?_
      refine sd_skip rfl rfl rfl ?_
      refine sd_skip rfl rfl rfl ?_
      refine sd_skip rfl rfl rfl ?_
      refine sd_skip rfl rfl rfl ?_
      refine sd_vv rfl rfl rfl (vv_pickT rfl rfl) ?_
      refine sd_nil ?_
      have K_140 : Kz [] w7 w49 := (Kz.gr (Kz.refl _ _) Gw49)
      refine ⟨rfl, true, ?_, hm, K_140⟩
      repeat' first | exact trivial | refine ⟨rfl, ?_⟩
    ·
      replace hm := ite_f (of_decide_eq_false c14) hm
      refine sd_vv rfl rfl rfl (vv_move rfl) ?_
      refine sd_vv rfl rfl rfl (vv_neq (a := x2.2) (b := 0) rfl rfl) ?_
      refine sd_vv rfl rfl rfl (vv_pickF rfl rfl) ?_
      refine sd_split rfl rfl rfl (vv_move rfl) (fun c15 => ?_) (fun c15 => ?_)
      ·
        replace hm := ite_t (of_decide_eq_true c15) hm
        refine sd_skip rfl rfl rfl ?_
        refine sd_skip rfl rfl rfl ?_
        refine sd_vv rfl rfl rfl (vv_pickT rfl rfl) ?_
        refine sd_vv rfl rfl rfl (vv_move rfl) ?_
        refine sd_skip rfl rfl rfl ?_
        refine sd_skip rfl rfl rfl ?_
        refine sd_skip rfl rfl rfl ?_
        refine sd_skip rfl rfl rfl ?_
        refine sd_skip rfl rfl rfl ?_
        refine sd_vv rfl rfl rfl (vv_pickT rfl rfl) ?_
        refine sd_nil ?_
        have K_141 : Kz [] w7 w49 := (Kz.gr (Kz.refl _ _) Gw49)
        refine ⟨rfl, true, ?_, hm, K_141⟩
        repeat' first | exact trivial | refine ⟨rfl, ?_⟩
      ·
        replace hm := ite_f (of_decide_eq_false c15) hm
        refine sd_vv rfl rfl rfl (vv_move rfl) ?_
        refine sd_vv rfl rfl rfl (vv_neqU (c := x2.1) (d := 2#64) rfl rfl) ?_
        refine sd_vv rfl rfl rfl (vv_pickF rfl rfl) ?_
        refine sd_split rfl rfl rfl (vv_move rfl) (fun c16 => ?_) (fun c16 => ?_)
        ·
          replace hm := ite_t (of_decide_eq_true c16) hm
          refine sd_skip rfl rfl rfl ?_
          refine sd_skip rfl rfl rfl ?_
          refine sd_skip rfl rfl rfl ?_
          refine sd_skip rfl rfl rfl ?_
          refine sd_skip rfl rfl rfl ?_
          refine sd_vv rfl rfl rfl (vv_pickT rfl rfl) ?_
          refine sd_nil ?_
          have K_142 : Kz [] w7 w49 := (Kz.gr (Kz.refl _ _) Gw49)
          refine ⟨rfl, true, ?_, hm, K_142⟩
          repeat' first | exact trivial | refine ⟨rfl, ?_⟩
        ·
          replace hm := ite_f (of_decide_eq_false c16) hm
          refine sd_vv rfl rfl rfl (vv_move rfl) ?_
          refine sd_vv rfl rfl rfl (vv_move rfl) ?_
          refine sd_ev rfl rfl rfl (ev_litT [3#64, 0#64, 2#64] uwc bsl_60_3 rfl rfl (ws_of rfl) rfl rfl rfl) ?_
          rintro vw50 w50 ⟨gw50, hbw50, Ow50, Gw50⟩
          have z143 := Gw50.size
          have lt144 := Ow50.lth
          have B145 := (Own.gr (Own.gr O7_r0_s Gw49) Gw50)
          have hb := bnd hm; clear hm; obtain ⟨x20, hx20, hm⟩ := hb
          refine sd_ev rfl rfl rfl (ev_call en_56 rfl (law04_words_w x3.1 x3.2 [3#64, 0#64, 2#64] _ _ _ _ _ _ _ _ _ hx20 _ (Own.rd B145) (Own.rd Ow50))) ?_
          rintro _ w51 ⟨rfl, Gw51⟩
          have z146 := Gw51.size
          refine sd_vv rfl rfl rfl (vv_not rfl) ?_
          refine sd_vv rfl rfl rfl (vv_pickF rfl rfl) ?_
          refine sd_nil ?_
          have K_147 : Kz [] w7 w51 := (Kz.gr (Kz.gr (Kz.gr (Kz.refl _ _) Gw49) Gw50) Gw51)
          refine ⟨rfl, (!x20), ?_, hm, K_147⟩
          repeat' first | exact trivial | refine ⟨rfl, ?_⟩
end Go.Proofs.Ytkdghilkigojgaa.Mx
