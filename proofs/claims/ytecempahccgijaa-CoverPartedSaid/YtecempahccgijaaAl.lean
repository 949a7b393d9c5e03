/- Walks that follow mirrors: Al. Printed by mx.py. -/
import Derived.Test.YtecempahccgijaaWc
import Derived.Test.YtecempahccgijaaAlM
set_option linter.unusedVariables false
set_option linter.unusedSimpArgs false
set_option maxRecDepth 100000
namespace Go.Proofs.Ytecempahccgijaa.Mx
open Go Go.RowKit Go.Sx
theorem en_58 : En Try.prog 58 := fun _ _ => by kernel_rfl
theorem bsl_61_2 : BSl Try.prog 61 2 3 1 [.int .i64 0, .int .i64 0] := bsl_mk Try.underlying61 (one_3).siz zv_3 rfl rfl (by kernel_rfl)
theorem bsl_61_4 : BSl Try.prog 61 4 3 1 [.int .i64 0, .int .i64 0, .int .i64 0, .int .i64 0] := bsl_mk Try.underlying61 (one_3).siz zv_3 rfl rfl (by kernel_rfl)
theorem en_54 : En Try.prog 54 := fun _ _ => by kernel_rfl
theorem en_64 : En Try.prog 64 := fun _ _ => by kernel_rfl
theorem en_63 : En Try.prog 63 := fun _ _ => by kernel_rfl
theorem bsl_61_8 : BSl Try.prog 61 8 3 1 [.int .i64 0, .int .i64 0, .int .i64 0, .int .i64 0, .int .i64 0, .int .i64 0, .int .i64 0, .int .i64 0] := bsl_mk Try.underlying61 (one_3).siz zv_3 rfl rfl (by kernel_rfl)
theorem en_40 : En Try.prog 40 := fun _ _ => by kernel_rfl
theorem en_46 : En Try.prog 46 := fun _ _ => by kernel_rfl
theorem en_48 : En Try.prog 48 := fun _ _ => by kernel_rfl
theorem en_38 : En Try.prog 38 := fun _ _ => by kernel_rfl
theorem en_44 : En Try.prog 44 := fun _ _ => by kernel_rfl
theorem en_52 : En Try.prog 52 := fun _ _ => by kernel_rfl
theorem en_35 : En Try.prog 35 := fun _ _ => by kernel_rfl

set_option maxHeartbeats 2000000 in
theorem law03_of_w (p0 : BitVec 8) (p1 : Int)  (r : TScheme) (hm : law03_of p0 p1 = some r) (w : World)   :
    Calls Try.prog 58 [bv p0, .int .i64 p1].toArray w fun e w' => ∃ v, e = .returned v ∧ (v = .agg (TScheme.cs r).toArray ∧ Gr w w') := by
  unfold law03_of at hm
  refine calls_of_sw (R := fun v w' => v = .agg (TScheme.cs r).toArray ∧ Gr w w') 8 Try.func58 rfl rfl rfl ?_
  refine sw_seq ?_
  -- region 0 outright.go:11
  refine sw_region [(0, 0)] rfl rfl rfl ?_
  refine sd_ev rfl rfl rfl (ev_alloc (cs := TScheme.cs (TScheme.mk 0#8 0 0 (TGroup.mk 0#64 0#64 0#64))) zv_45 rfl) ?_
  rintro _ w1 ⟨b1, rfl, hbw1, Bw1, Gw1⟩
  have z1 := Gw1.size
  have lt2 := Bw1.lt
  refine sd_done ?_
  refine sw_seq ?_
  -- region 1 outright.go:11
  refine sw_region [(0, 0), (1, 0), (2, 0), (3, 0)] rfl rfl rfl ?_
  refine sd_vv rfl rfl rfl (vv_move rfl) ?_
  refine sd_vv rfl rfl rfl (vv_move rfl) ?_
  refine sd_vv rfl rfl rfl (vv_build (cs := TScheme.cs (TScheme.mk p0 p1 0 (TGroup.mk 0#64 0#64 0#64))) bs_45 rfl rfl) ?_
  refine sd_ev rfl rfl rfl (ev_stM (cs' := TScheme.cs (TScheme.mk p0 p1 0 (TGroup.mk 0#64 0#64 0#64))) (vs := TScheme.cs (TScheme.mk p0 p1 0 (TGroup.mk 0#64 0#64 0#64))) (agg_45).siz rfl rfl rfl rfl rfl Bw1 rfl rfl) ?_
  rintro _ w2 ⟨Bw2, Mw2⟩
  have z3 := Mw2.size
  refine sd_done ?_
  refine sw_ret ?_
  have X4 : Gr w w2 := (Gr.md (Gr.trans (Gr.refl w) Gw1) Mw2)
  have hr := Option.some.inj hm
  subst hr
  refine ⟨_, _, rfl, res_1 rfl (rv_cellW agg_45 rfl Bw2 rfl), ?_⟩
  exact ⟨rfl, X4⟩

set_option maxHeartbeats 2000000 in
theorem law03_is_w (p0 : List TSubset) (p1 : Int) (p2 : List Int) (vp0 : Value) (zp0 gp0 op0 : Nat) (vp2 : Value) (zp2 gp2 op2 : Nat) (r : Bool) (hm : law03_is p0 p1 p2 = some r) (w : World) (hp0 : Rd w zp0 gp0 op0 2 vp0 (p0.map TSubset.cs)) (hp2 : Rd w zp2 gp2 op2 1 vp2 (p2.map ic))  :
    Calls Try.prog 64 [vp0, .int .i64 p1, vp2].toArray w fun e w' => ∃ v, e = .returned v ∧ (v = .bool r ∧ Gr w w') := by
  have lt1 := hp0.lth
  have lt2 := hp2.lth
  unfold law03_is at hm
  refine calls_of_sw (R := fun v w' => v = .bool r ∧ Gr w w') 49 Try.func64 rfl rfl rfl ?_
  refine sw_seq ?_
  -- region 0 outright.go:14
  refine sw_region [(0, 0)] rfl rfl rfl ?_
  refine sd_vv rfl rfl rfl (vv_assign rfl) ?_
  refine sd_done ?_
  refine sw_seq ?_
  refine sw_joinD (β := Bool) [8, 9, 10, 11, 12, 13, 14, 15, 16, 17] (fun a1 => [(17, .bool a1)]) (fun a1 wr => (law03_is_J1 p0 p2 a1 = some r) ∧ Kz [] w wr) ?_ ?_
  · clear hm; rintro a1 w1 ⟨hm, Kw1⟩
    have z3 := Kw1.size
    unfold law03_is_J1 at hm
    refine sw_cond rfl (fun c1 => ?_) (fun c1 => ?_)
    ·
      replace hm := cnd_t c1 hm
      refine sw_seq ?_
      -- region 2 outright.go:16
      refine sw_region [(0, 0)] rfl rfl rfl ?_
      refine sd_vv rfl rfl rfl (vv_assign rfl) ?_
      refine sd_done ?_
      refine sw_ret ?_
      refine then_r ?_
      have X4 : Gr w w1 := (Gr.kz (Gr.refl w) Kw1)
      have hr := Option.some.inj hm
      subst hr
      refine ⟨_, _, rfl, res_1 rfl (rv_tmp rfl), ?_⟩
      exact ⟨rfl, X4⟩
    ·
      replace hm := cnd_f c1 hm
      refine sw_skip ?_
      refine then_n ?_
      refine sw_seq ?_
      refine sw_seq ?_
      -- region 3 outright.go:18
      refine sw_region [(0, 0)] rfl rfl rfl ?_
      refine sd_vv rfl rfl rfl (vv_assign rfl) ?_
      refine sd_done ?_
      refine sw_block ?_
      have X5 : Gr w w1 := (Gr.kz (Gr.refl w) Kw1)
      have B6 := (Rd.kz hp0 Kw1)
      have B7 := (Rd.kz hp2 Kw1)
      refine sw_loopD (α := Nat × Int) [6, 7, 18, 19, 20, 21, 22, 23, 24, 25, 26, 27, 28, 29, 30, 31, 32, 33, 34, 35, 36, 37, 38, 39, 40, 41, 42, 43, 44, 45, 46, 47, 48] (fun ⟨n2, a3⟩ => [(6, .bool false), (7, .int .i64 a3)]) (fun ⟨n2, a3⟩ wr => (fixN (law03_is_L2 p0 p2) n2 a3 = some r) ∧ Kz [] w1 wr) (fun ⟨n2, a3⟩ => n2) ⟨FUEL, 0⟩ ?_ ?_ ?_
      · repeat' first | exact trivial | refine ⟨rfl, ?_⟩
      · exact ⟨hm, Kz.refl _ _⟩
      · clear hm; rintro ⟨n2, a3⟩ w2 ⟨hm, Kw2⟩
        have z8 := Kw2.size
        have hb := fix_succ hm; clear hm; obtain ⟨n2, rfl, hm⟩ := hb
        generalize hrec2 : fixN (law03_is_L2 p0 p2) n2 = rec2 at hm
        unfold law03_is_L2 at hm
        try dsimp only at hm
        refine sw_seq ?_
        refine sw_seq ?_
        -- region 4 outright.go:18
        refine sw_region [(0, 0), (1, 0), (2, 0), (3, 0)] rfl rfl rfl ?_
        refine sd_vv rfl rfl rfl (vv_move rfl) ?_
        refine sd_vv rfl rfl rfl (vv_move rfl) ?_
        have B9 := (Rd.kz B6 Kw2)
        refine sd_vv rfl rfl rfl (vv_lenT (l := p0) (c := TSubset.cs) Try.underlying48 rfl B9) ?_
        refine sd_vv rfl rfl rfl (vv_lss (a := a3) (b := (p0.length : Int)) rfl rfl) ?_
        refine sd_done ?_
        refine sw_cond rfl (fun c2 => ?_) (fun c2 => ?_)
        ·
          replace hm := ite_t (of_decide_eq_true c2) hm
          refine sw_skip ?_
          refine then_n ?_
          refine sw_seq ?_
          refine sw_block ?_
          have X10 : Gr w w2 := (Gr.kz X5 Kw2)
          refine sw_joinD (β := Bool) [24, 25, 26, 27, 28, 29, 30, 31, 32, 33, 34, 35, 36, 37, 38, 39, 40, 41, 42, 43, 44, 45, 46, 47, 48] (fun a4 => [(48, .bool a4)]) (fun a4 wr => (law03_is_J3 a3 rec2 a4 = some r) ∧ Kz [] w2 wr) ?_ ?_
          · clear hm; rintro a4 w3 ⟨hm, Kw3⟩
            have z11 := Kw3.size
            unfold law03_is_J3 at hm
            refine sw_cond rfl (fun c3 => ?_) (fun c3 => ?_)
            ·
              replace hm := cnd_t c3 hm
              refine sw_seq ?_
              -- region 7 outright.go:20
              refine sw_region [(0, 0)] rfl rfl rfl ?_
              refine sd_vv rfl rfl rfl (vv_assign rfl) ?_
              refine sd_done ?_
              refine sw_ret ?_
              refine block_r ?_
              refine then_r ?_
              refine then_r ?_
              refine block_r ?_
              refine then_r ?_
              have X12 : Gr w w3 := (Gr.kz X10 Kw3)
              have hr := Option.some.inj hm
              subst hr
              refine ⟨_, _, rfl, res_1 rfl (rv_tmp rfl), ?_⟩
              exact ⟨rfl, X12⟩
            ·
              replace hm := cnd_f c3 hm
              refine sw_skip ?_
              refine block_n ?_
              refine then_n ?_
              -- region 5 outright.go:18
              refine sw_region [(0, 0), (1, 0), (2, 0)] rfl rfl rfl ?_
              refine sd_vv rfl rfl rfl (vv_move rfl) ?_
              refine sd_vv rfl rfl rfl (vv_add (k := .i64) (a := a3) (b := 1) rfl rfl) ?_
              refine sd_vv rfl rfl rfl (vv_assign rfl) ?_
              refine sd_nil ?_
              have K_13 : Kz [] w1 w3 := (Kz.kz Kw2 Kw3)
              subst hrec2
              refine ⟨rfl, ⟨n2, w64 (a3 + 1)⟩, ?_, ⟨hm, K_13⟩, Nat.lt_succ_self _⟩
              repeat' first | exact trivial | refine ⟨rfl, ?_⟩
          ·
            -- region 6 outright.go:19 DRAWS
            refine sw_drawN [([])] [] (.leaf [(0, 10), (1, 10), (2, 10), (3, 10), (4, 10), (5, 10), (6, 10), (7, 10), (8, 10), (9, 10), (10, 10), (11, 10), (12, 10), (13, 10), (14, 10), (15, 10), (16, 10), (17, 10), (18, 10), (19, 10), (20, 10), (21, 10), (22, 10), (23, 10), (24, 10)]) (by kernel_rfl) (by kernel_rfl) rfl (by kernel_rfl) ?_
            intro w4 Gw4 zw4
            refine sdz_leaf ?_
            refine dd_hn 0 rfl rfl rfl rfl (Kp.refl ([]) w4) (fun w hS => vv_move rfl) ?_
            refine dd_hn 0 rfl rfl rfl rfl (Kp.refl ([]) w4) (fun w hS => vv_move rfl) ?_
            have hb := bnd hm; clear hm; obtain ⟨y5, hy5, hm⟩ := hb
            have B14 := (Rd.gr B9 Gw4)
            refine dd_hn 0 rfl rfl rfl rfl (Kp.refl ([]) w4) (fun w hS => vv_ixT (i := a3) Try.underlying48 (agg_47).siz rfl (Rd.kp B14 hS) rfl hy5) ?_
            refine dd_hn 0 rfl rfl rfl rfl (Kp.refl ([]) w4) (fun w hS => vv_fieldAddr fa_47_0 rfl) ?_
            refine dd_hn 0 rfl rfl rfl rfl (Kp.refl ([]) w4) (fun w hS => vv_el1T (q := 0) (u := .int .i64 y5.Node) one_3 rfl (Rd.kp B14 hS) hy5 (by first | rfl | omega) rfl) ?_
            refine dd_hn 0 rfl rfl rfl rfl (Kp.refl ([]) w4) (fun w hS => vv_move rfl) ?_
            refine dd_hn 0 rfl rfl rfl rfl (Kp.refl ([]) w4) (fun w hS => vv_move rfl) ?_
            refine dd_hn 0 rfl rfl rfl rfl (Kp.refl ([]) w4) (fun w hS => vv_mul (k := .i64) (a := 2) (b := a3) rfl rfl) ?_
            have hb := bnd hm; clear hm; obtain ⟨y6, hy6, hm⟩ := hb
            have B15 := (Rd.gr (Rd.kz B7 Kw2) Gw4)
            refine dd_hn 0 rfl rfl rfl rfl (Kp.refl ([]) w4) (fun w hS => vv_ixT (i := w64 (2 * a3)) Try.underlying61 (one_3).siz rfl (Rd.kp B15 hS) rfl hy6) ?_
            refine dd_hn 0 rfl rfl rfl rfl (Kp.refl ([]) w4) (fun w hS => vv_el1T (q := 0) (u := .int .i64 y6) one_3 rfl (Rd.kp B15 hS) hy6 (by first | rfl | omega) rfl) ?_
            refine dd_hn 0 rfl rfl rfl rfl (Kp.refl ([]) w4) (fun w hS => vv_neq (a := y5.Node) (b := y6) rfl rfl) ?_
            refine dd_pn 0 rfl rfl rfl rfl (Kp.refl ([]) w4) (fun w hS => vv_move rfl) (fun c4 => ?_) (fun c4 => ?_)
            ·
              replace hm := ite_t (of_decide_eq_true c4) hm
              refine dd_sn 0 rfl rfl rfl rfl (Kp.refl ([]) w4) ?_
              refine dd_sn 0 rfl rfl rfl rfl (Kp.refl ([]) w4) ?_
              refine dd_sn 0 rfl rfl rfl rfl (Kp.refl ([]) w4) ?_
              refine dd_sn 0 rfl rfl rfl rfl (Kp.refl ([]) w4) ?_
              refine dd_sn 0 rfl rfl rfl rfl (Kp.refl ([]) w4) ?_
              refine dd_sn 0 rfl rfl rfl rfl (Kp.refl ([]) w4) ?_
              refine dd_sn 0 rfl rfl rfl rfl (Kp.refl ([]) w4) ?_
              refine dd_sn 0 rfl rfl rfl rfl (Kp.refl ([]) w4) ?_
              refine dd_sn 0 rfl rfl rfl rfl (Kp.refl ([]) w4) ?_
              refine dd_sn 0 rfl rfl rfl rfl (Kp.refl ([]) w4) ?_
              refine dd_sn 0 rfl rfl rfl rfl (Kp.refl ([]) w4) ?_
              refine dd_sn 0 rfl rfl rfl rfl (Kp.refl ([]) w4) ?_
              refine dd_hn 0 rfl rfl rfl rfl (Kp.refl ([]) w4) (fun w hS => vv_pickT rfl rfl) ?_
              refine sd_nil ?_
              have K_16 : Kz [] w2 w4 := (Kz.gr (Kz.refl _ _) Gw4)
              refine ⟨rfl, true, ?_, hm, K_16⟩
              repeat' first | exact trivial | refine ⟨rfl, ?_⟩
            ·
              replace hm := ite_f (of_decide_eq_false c4) hm
              refine dd_hn 0 rfl rfl rfl rfl (Kp.refl ([]) w4) (fun w hS => vv_move rfl) ?_
              refine dd_hn 0 rfl rfl rfl rfl (Kp.refl ([]) w4) (fun w hS => vv_move rfl) ?_
              have hb := bnd hm; clear hm; obtain ⟨y7, hy7, hm⟩ := hb
              refine dd_hn 0 rfl rfl rfl rfl (Kp.refl ([]) w4) (fun w hS => vv_ixT (i := a3) Try.underlying48 (agg_47).siz rfl (Rd.kp B14 hS) rfl hy7) ?_
              refine dd_hn 0 rfl rfl rfl rfl (Kp.refl ([]) w4) (fun w hS => vv_fieldAddr fa_47_1 rfl) ?_
              refine dd_hn 0 rfl rfl rfl rfl (Kp.refl ([]) w4) (fun w hS => vv_el1T (q := 1) (u := .int .i64 y7.Minus) one_3 rfl (Rd.kp B14 hS) hy7 (by first | rfl | omega) rfl) ?_
              refine dd_hn 0 rfl rfl rfl rfl (Kp.refl ([]) w4) (fun w hS => vv_move rfl) ?_
              refine dd_hn 0 rfl rfl rfl rfl (Kp.refl ([]) w4) (fun w hS => vv_move rfl) ?_
              refine dd_hn 0 rfl rfl rfl rfl (Kp.refl ([]) w4) (fun w hS => vv_mul (k := .i64) (a := 2) (b := a3) rfl rfl) ?_
              refine dd_hn 0 rfl rfl rfl rfl (Kp.refl ([]) w4) (fun w hS => vv_add (k := .i64) (a := w64 (2 * a3)) (b := 1) rfl rfl) ?_
              have hb := bnd hm; clear hm; obtain ⟨y8, hy8, hm⟩ := hb
              refine dd_hn 0 rfl rfl rfl rfl (Kp.refl ([]) w4) (fun w hS => vv_ixT (i := w64 ((w64 (2 * a3)) + 1)) Try.underlying61 (one_3).siz rfl (Rd.kp B15 hS) rfl hy8) ?_
              refine dd_hn 0 rfl rfl rfl rfl (Kp.refl ([]) w4) (fun w hS => vv_el1T (q := 0) (u := .int .i64 y8) one_3 rfl (Rd.kp B15 hS) hy8 (by first | rfl | omega) rfl) ?_
              refine dd_hn 0 rfl rfl rfl rfl (Kp.refl ([]) w4) (fun w hS => vv_neq (a := y7.Minus) (b := y8) rfl rfl) ?_
              refine dd_hn 0 rfl rfl rfl rfl (Kp.refl ([]) w4) (fun w hS => vv_pickF rfl rfl) ?_
              refine sd_nil ?_
              have K_17 : Kz [] w2 w4 := (Kz.gr (Kz.refl _ _) Gw4)
              refine ⟨rfl, (decide (y7.Minus ≠ y8)), ?_, hm, K_17⟩
              repeat' first | exact trivial | refine ⟨rfl, ?_⟩
        ·
          replace hm := ite_f (of_decide_eq_false c2) hm
          refine sw_exit ?_
          refine then_x ?_
          refine then_x ?_
          refine block_x ?_
          refine then_n ?_
          refine sw_seq ?_
          -- region 8 outright.go:23
          refine sw_region [(0, 0)] rfl rfl rfl ?_
          refine sd_vv rfl rfl rfl (vv_assign rfl) ?_
          refine sd_done ?_
          refine sw_ret ?_
          have X18 : Gr w w2 := (Gr.kz X5 Kw2)
          have hr := Option.some.inj hm
          subst hr
          refine ⟨_, _, rfl, res_1 rfl (rv_tmp rfl), ?_⟩
          exact ⟨rfl, X18⟩
  ·
    -- region 1 outright.go:15
    refine sw_region [(0, 0), (1, 0), (2, 0), (3, 0), (4, 0), (5, 0), (6, 0), (7, 0), (8, 0), (9, 0)] rfl rfl rfl ?_
    refine sd_vv rfl rfl rfl (vv_move rfl) ?_
    refine sd_vv rfl rfl rfl (vv_neq (a := p1) (b := 0) rfl rfl) ?_
    refine sd_split rfl rfl rfl (vv_move rfl) (fun c5 => ?_) (fun c5 => ?_)
    ·
      replace hm := ite_t (of_decide_eq_true c5) hm
      refine sd_skip rfl rfl rfl ?_
      refine sd_skip rfl rfl rfl ?_
      refine sd_skip rfl rfl rfl ?_
      refine sd_skip rfl rfl rfl ?_
      refine sd_skip rfl rfl rfl ?_
      refine sd_skip rfl rfl rfl ?_
      refine sd_vv rfl rfl rfl (vv_pickT rfl rfl) ?_
      refine sd_nil ?_
      have K_19 : Kz [] w w := (Kz.refl _ _)
      refine ⟨rfl, true, ?_, hm, K_19⟩
      repeat' first | exact trivial | refine ⟨rfl, ?_⟩
    ·
      replace hm := ite_f (of_decide_eq_false c5) hm
      refine sd_vv rfl rfl rfl (vv_move rfl) ?_
      refine sd_vv rfl rfl rfl (vv_lenT (l := p0) (c := TSubset.cs) Try.underlying48 rfl hp0) ?_
      refine sd_vv rfl rfl rfl (vv_mul (k := .i64) (a := 2) (b := (p0.length : Int)) rfl rfl) ?_
      refine sd_vv rfl rfl rfl (vv_move rfl) ?_
      refine sd_vv rfl rfl rfl (vv_lenT (l := p2) (c := ic) Try.underlying61 rfl hp2) ?_
      refine sd_vv rfl rfl rfl (vv_neq (a := w64 (2 * (p0.length : Int))) (b := (p2.length : Int)) rfl rfl) ?_
      refine sd_vv rfl rfl rfl (vv_pickF rfl rfl) ?_
      refine sd_nil ?_
      have K_20 : Kz [] w w := (Kz.refl _ _)
      refine ⟨rfl, (decide (w64 (2 * (p0.length : Int)) ≠ (p2.length : Int))), ?_, hm, K_20⟩
      repeat' first | exact trivial | refine ⟨rfl, ?_⟩

set_option maxHeartbeats 2000000 in
theorem law03_covers_w (p0 : TScheme) (p1 : List Int) (p2 : List Int) (vp1 : Value) (zp1 gp1 op1 : Nat) (vp2 : Value) (zp2 gp2 op2 : Nat) (r : Bool) (hm : law03_covers p0 p1 p2 = some r) (w : World) (hp1 : Rd w zp1 gp1 op1 1 vp1 (p1.map ic)) (hp2 : Rd w zp2 gp2 op2 1 vp2 (p2.map ic))  :
    Calls Try.prog 63 [.agg (TScheme.cs p0).toArray, vp1, vp2].toArray w fun e w' => ∃ v, e = .returned v ∧ (v = .bool r ∧ Gr w w') := by
  have lt1 := hp1.lth
  have lt2 := hp2.lth
  unfold law03_covers at hm
  refine calls_of_sw (R := fun v w' => v = .bool r ∧ Gr w w') 19 Try.func63 rfl rfl rfl ?_
  refine sw_seq ?_
  -- region 0 outright.go:27
  refine sw_region [(0, 0), (1, 0)] rfl rfl rfl ?_
  refine sd_ev rfl rfl rfl (ev_box (cs := TScheme.cs p0) rfl rfl) ?_
  rintro _ w1 ⟨b1, rfl, hbw1, Bw1, Gw1⟩
  have z3 := Gw1.size
  have lt4 := Bw1.lt
  refine sd_vv rfl rfl rfl (vv_assign rfl) ?_
  refine sd_done ?_
  refine sw_seq ?_
  -- region 1 outright.go:28
  refine sw_region [(0, 0), (1, 0), (2, 0), (3, 0), (4, 0), (5, 0), (6, 0), (7, 0)] rfl rfl rfl ?_
  refine sd_vv rfl rfl rfl (vv_loadW agg_45 rfl Bw1 rfl) ?_
  refine sd_vv rfl rfl rfl (vv_move rfl) ?_
  have B5 := (Rd.gr hp1 Gw1)
  have hb := bnd hm; clear hm; obtain ⟨x1, hx1, hm⟩ := hb
  refine sd_ev rfl rfl rfl (ev_call en_54 rfl (cover_Cover_w p0 p1 _ _ _ _ _ hx1 _ B5)) ?_
  rintro _ w2 ⟨u2_r0_s, z2_r0_s, g2_r0_s, rfl, O2_r0_s, f2_r0_s, Gw2⟩
  have z6 := Gw2.size
  have lt7 := O2_r0_s.lth
  refine sd_vv rfl rfl rfl (vv_move rfl) ?_
  refine sd_vv rfl rfl rfl (vv_extract rfl rfl) ?_
  refine sd_vv rfl rfl rfl (vv_extract rfl rfl) ?_
  refine sd_vv rfl rfl rfl (vv_assign rfl) ?_
  refine sd_vv rfl rfl rfl (vv_assign rfl) ?_
  refine sd_done ?_
  refine sw_seq ?_
  -- region 2 outright.go:29
  refine sw_region [(0, 0), (1, 0), (2, 0), (3, 0), (4, 0)] rfl rfl rfl ?_
  refine sd_vv rfl rfl rfl (vv_move rfl) ?_
  refine sd_vv rfl rfl rfl (vv_move rfl) ?_
  refine sd_vv rfl rfl rfl (vv_move rfl) ?_
  have B8 := (Rd.gr (Rd.gr hp2 Gw1) Gw2)
  have hb := bnd hm; clear hm; obtain ⟨x2, hx2, hm⟩ := hb
  refine sd_ev rfl rfl rfl (ev_call en_64 rfl (law03_is_w x1.1 x1.2 p2 _ _ _ _ _ _ _ _ _ hx2 _ (Own.rd O2_r0_s) B8)) ?_
  rintro _ w3 ⟨rfl, Gw3⟩
  have z9 := Gw3.size
  refine sd_vv rfl rfl rfl (vv_assign rfl) ?_
  refine sd_done ?_
  refine sw_ret ?_
  have X10 : Gr w w3 := (Gr.trans (Gr.trans (Gr.trans (Gr.refl w) Gw1) Gw2) Gw3)
  have hr := Option.some.inj hm
  subst hr
  refine ⟨_, _, rfl, res_1 rfl (rv_tmp rfl), ?_⟩
  exact ⟨rfl, X10⟩

set_option maxHeartbeats 2000000 in
theorem law03_alive_w   (r : Bool) (hm : law03_alive = some r) (w : World)   :
    Calls Try.prog 56 [].toArray w fun e w' => ∃ v, e = .returned v ∧ (v = .bool r ∧ Gr w w') := by
  unfold law03_alive at hm
  refine calls_of_sw (R := fun v w' => v = .bool r ∧ Gr w w') 155 Try.func56 rfl rfl rfl ?_
  refine sw_seq ?_
  -- region 0 outright.go:33
  refine sw_region [(0, 0)] rfl rfl rfl ?_
  refine sd_vv rfl rfl rfl (vv_assign rfl) ?_
  refine sd_done ?_
  refine sw_seq ?_
  refine sw_joinD (β := Bool) [14, 15, 16, 17, 18, 19, 20, 21, 22, 23, 24, 25, 26, 27, 28, 29, 30, 31, 32] (fun a1 => [(32, .bool a1)]) (fun a1 wr => (law03_alive_J1 a1 = some r) ∧ Kz [] w wr) ?_ ?_
  · clear hm; rintro a1 w1 ⟨hm, Kw1⟩
    have z1 := Kw1.size
    unfold law03_alive_J1 at hm
    refine sw_cond rfl (fun c1 => ?_) (fun c1 => ?_)
    ·
      replace hm := cnd_t c1 hm
      refine sw_seq ?_
      -- region 2 outright.go:35
      refine sw_region [(0, 0)] rfl rfl rfl ?_
      refine sd_vv rfl rfl rfl (vv_assign rfl) ?_
      refine sd_done ?_
      refine sw_ret ?_
      refine then_r ?_
      have X2 : Gr w w1 := (Gr.kz (Gr.refl w) Kw1)
      have hr := Option.some.inj hm
      subst hr
      refine ⟨_, _, rfl, res_1 rfl (rv_tmp rfl), ?_⟩
      exact ⟨rfl, X2⟩
    ·
      replace hm := cnd_f c1 hm
      refine sw_skip ?_
      refine then_n ?_
      refine sw_seq ?_
      -- region 3 outright.go:37
      refine sw_region [(0, 0), (1, 0)] rfl rfl rfl ?_
      refine sd_ev rfl rfl rfl (ev_alloc (cs := kb k0) zv_26 rfl) ?_
      rintro _ w2 ⟨b2, rfl, hbw2, Bw2, Gw2⟩
      have z3 := Gw2.size
      have lt4 := Bw2.lt
      refine sd_ev rfl rfl rfl (ev_alloc (cs := kb k0) zv_26 rfl) ?_
      rintro _ w3 ⟨b3, rfl, hbw3, Bw3, Gw3⟩
      have z5 := Gw3.size
      have lt6 := Bw3.lt
      refine sd_done ?_
      refine sw_seq ?_
      -- region 4 outright.go:38
      refine sw_region [(0, 0), (1, 0), (2, 0), (3, 0)] rfl rfl rfl ?_
      have hb := bnd hm; clear hm; obtain ⟨y2, hy2, hm⟩ := hb
      refine sd_vv rfl rfl rfl (vv_ixK (i := 3) (p := k0) Try.underlying26 (one_5).siz rfl rfl hy2) ?_
      have B7 := (Bx.gr Bw2 Gw3)
      have hb := bnd hm; clear hm; obtain ⟨x3, hx3, hm⟩ := hb
      refine sd_ev rfl rfl rfl (ev_stK (off := 0) (p := k0) (q := x3) (i := 3) (cs' := kb x3) (one_5).siz rfl rfl B7 rfl hx3 rfl rfl rfl) ?_
      rintro _ w4 ⟨Bw4, Mw4⟩
      have z8 := Mw4.size
      have hb := bnd hm; clear hm; obtain ⟨y4, hy4, hm⟩ := hb
      refine sd_vv rfl rfl rfl (vv_ixK (i := 0) (p := k0) Try.underlying26 (one_5).siz rfl rfl hy4) ?_
      have B9 := (Bx.md Bw3 Mw4)
      have hb := bnd hm; clear hm; obtain ⟨x5, hx5, hm⟩ := hb
      refine sd_ev rfl rfl rfl (ev_stK (off := 0) (p := k0) (q := x5) (i := 0) (cs' := kb x5) (one_5).siz rfl rfl B9 rfl hx5 rfl rfl rfl) ?_
      rintro _ w5 ⟨Bw5, Mw5⟩
      have z10 := Mw5.size
      refine sd_done ?_
      have X11 : Gr w w5 := (Gr.md (Gr.md (Gr.trans (Gr.trans (Gr.kz (Gr.refl w) Kw1) Gw2) Gw3) Mw4) Mw5)
      refine sw_joinD (β := TSecret × Int × Nat × Value × Nat × Nat) [3, 4, 35, 36, 37, 38, 39, 40] (fun ⟨a7, a9, bq6, vy8, zy8, gy8⟩ => [(3, .pointer (some ⟨bq6, 0, none⟩)), (4, .int .i64 a9)]) (fun ⟨a7, a9, bq6, vy8, zy8, gy8⟩ wr => (law03_alive_J2 x3 x5 a7 a9 = some r) ∧ Own wr zy8 gy8 81 18 vy8 (a7.Labels.map TLabel.cs) ∧ Hdn (zy8 = 0 ∨ w5.heap.size ≤ gy8) ∧ Bx wr bq6 74 (TSecret.cs a7 vy8) ∧ w5.heap.size ≤ bq6 ∧ Hdn (zy8 = 0 ∨ gy8 ≠ bq6) ∧ Kz [] w5 wr) ?_ ?_
      · clear hm; rintro ⟨a7, a9, bq6, vy8, zy8, gy8⟩ w6 ⟨hm, Fw6_0, Fw6_1, Fw6_2, Fw6_3, Fw6_4, Kw6⟩
        have z12 := Kw6.size
        have lt13 := Fw6_0.lth
        have lt14 := Fw6_2.lt
        unfold law03_alive_J2 at hm
        have X15 : Gr w w6 := (Gr.kz X11 Kw6)
        refine sw_joinD (β := W2 × Int × Nat) [5, 6, 41, 42, 43, 44, 45, 46, 47] (fun ⟨a11, a12, bq10⟩ => [(5, .pointer (some ⟨bq10, 0, none⟩)), (6, .int .i64 a12)]) (fun ⟨a11, a12, bq10⟩ wr => (law03_alive_J3 x3 x5 a7 a9 a11 a12 = some r) ∧ Bx wr bq10 26 (kb a11) ∧ w6.heap.size ≤ bq10 ∧ Kz [] w6 wr) ?_ ?_
        · clear hm; rintro ⟨a11, a12, bq10⟩ w7 ⟨hm, Fw7_0, Fw7_1, Kw7⟩
          have z16 := Kw7.size
          have lt17 := Fw7_0.lt
          unfold law03_alive_J3 at hm
          have X18 : Gr w w7 := (Gr.kz X15 Kw7)
          refine sw_joinD (β := W2 × Int × Nat) [7, 8, 48, 49, 50, 51, 52, 53, 54] (fun ⟨a14, a15, bq13⟩ => [(7, .pointer (some ⟨bq13, 0, none⟩)), (8, .int .i64 a15)]) (fun ⟨a14, a15, bq13⟩ wr => (law03_alive_J4 x3 x5 a7 a9 a11 a12 a14 a15 = some r) ∧ Bx wr bq13 26 (kb a14) ∧ w7.heap.size ≤ bq13 ∧ Kz [] w7 wr) ?_ ?_
          · clear hm; rintro ⟨a14, a15, bq13⟩ w8 ⟨hm, Fw8_0, Fw8_1, Kw8⟩
            have z19 := Kw8.size
            have lt20 := Fw8_0.lt
            unfold law03_alive_J4 at hm
            refine sw_seq ?_
            have X21 : Gr w w8 := (Gr.kz X18 Kw8)
            refine sw_joinD (β := Bool) [55, 56, 57, 58, 59, 60, 61, 62, 63, 64, 65, 66, 67, 68, 69, 70, 71, 72, 73, 74, 75, 76, 77, 78, 79, 80, 81, 82, 83, 84, 85, 86, 87, 88, 89, 90, 91] (fun a16 => [(91, .bool a16)]) (fun a16 wr => (law03_alive_J5 x3 x5 a7 a16 = some r) ∧ Kz [] w8 wr) ?_ ?_
            · clear hm; rintro a16 w9 ⟨hm, Kw9⟩
              have z22 := Kw9.size
              unfold law03_alive_J5 at hm
              refine sw_cond rfl (fun c2 => ?_) (fun c2 => ?_)
              ·
                replace hm := cnd_t c2 hm
                refine sw_seq ?_
                -- region 9 outright.go:43
                refine sw_region [(0, 0)] rfl rfl rfl ?_
                refine sd_vv rfl rfl rfl (vv_assign rfl) ?_
                refine sd_done ?_
                refine sw_ret ?_
                refine then_r ?_
                have X23 : Gr w w9 := (Gr.kz X21 Kw9)
                have hr := Option.some.inj hm
                subst hr
                refine ⟨_, _, rfl, res_1 rfl (rv_tmp rfl), ?_⟩
                exact ⟨rfl, X23⟩
              ·
                replace hm := cnd_f c2 hm
                refine sw_skip ?_
                refine then_n ?_
                have X24 : Gr w w9 := (Gr.kz X21 Kw9)
                refine sw_joinD (β := Int × THeader × Nat × Value × Nat × Nat × Value × Nat × Nat) [4, 9, 92, 93, 94, 95, 96, 97, 98, 99, 100] (fun ⟨a17, a19, bq18, vy20, zy20, gy20, vy21, zy21, gy21⟩ => [(4, .int .i64 a17), (9, .pointer (some ⟨bq18, 0, none⟩))]) (fun ⟨a17, a19, bq18, vy20, zy20, gy20, vy21, zy21, gy21⟩ wr => (law03_alive_J6 x5 a7 a17 a19 = some r) ∧ Own wr zy20 gy20 108 18 vy20 (a19.Items.map TItem.cs) ∧ Hdn (zy20 = 0 ∨ w9.heap.size ≤ gy20) ∧ Own wr zy21 gy21 72 2 vy21 (a19.Points.map TPoint.cs) ∧ Hdn (zy21 = 0 ∨ w9.heap.size ≤ gy21) ∧ Bx wr bq18 28 (THeader.cs a19 vy20 vy21) ∧ w9.heap.size ≤ bq18 ∧ Hdn (zy21 = 0 ∨ zy20 = 0 ∨ gy21 ≠ gy20) ∧ Hdn (zy20 = 0 ∨ gy20 ≠ bq18) ∧ Hdn (zy21 = 0 ∨ gy21 ≠ bq18) ∧ Kz [] w9 wr) ?_ ?_
                · clear hm; rintro ⟨a17, a19, bq18, vy20, zy20, gy20, vy21, zy21, gy21⟩ w10 ⟨hm, Fw10_0, Fw10_1, Fw10_2, Fw10_3, Fw10_4, Fw10_5, Fw10_6, Fw10_7, Fw10_8, Kw10⟩
                  have z25 := Kw10.size
                  have lt26 := Fw10_0.lth
                  have lt27 := Fw10_2.lth
                  have lt28 := Fw10_4.lt
                  unfold law03_alive_J6 at hm
                  have X29 : Gr w w10 := (Gr.kz X24 Kw10)
                  refine sw_joinD (β := Int × W2 × Nat) [6, 10, 101, 102, 103, 104, 105, 106, 107] (fun ⟨a22, a24, bq23⟩ => [(6, .int .i64 a22), (10, .pointer (some ⟨bq23, 0, none⟩))]) (fun ⟨a22, a24, bq23⟩ wr => (law03_alive_J7 x5 a17 a19 a22 a24 = some r) ∧ Bx wr bq23 26 (kb a24) ∧ w10.heap.size ≤ bq23 ∧ Kz [] w10 wr) ?_ ?_
                  · clear hm; rintro ⟨a22, a24, bq23⟩ w11 ⟨hm, Fw11_0, Fw11_1, Kw11⟩
                    have z30 := Kw11.size
                    have lt31 := Fw11_0.lt
                    unfold law03_alive_J7 at hm
                    refine sw_seq ?_
                    -- region 12 outright.go:47
                    refine sw_region [(0, 0), (1, 0), (2, 0), (3, 0), (4, 0), (5, 0), (6, 0), (7, 0), (8, 0)] rfl rfl rfl ?_
                    have hb := bnd hm; clear hm; obtain ⟨x25, hx25, hm⟩ := hb
                    refine sd_ev rfl rfl rfl (ev_call en_58 rfl (law03_of_w 2#8 2 _ hx25 _)) ?_
                    rintro _ w12 ⟨rfl, Gw12⟩
                    have z32 := Gw12.size
                    refine sd_ev rfl rfl rfl (ev_litT [2] ic bsl_61_1 rfl rfl (ws_of rfl) rfl rfl rfl) ?_
                    rintro vw13 w13 ⟨gw13, hbw13, Ow13, Gw13⟩
                    have z33 := Gw13.size
                    have lt34 := Ow13.lth
                    refine sd_vv rfl rfl rfl (vv_build (cs := TSubset.cs (TSubset.mk 1 6)) bs_47 rfl rfl) ?_
                    have hb := bnd hm; clear hm; obtain ⟨x26, hx26, hm⟩ := hb
                    refine sd_ev rfl rfl rfl (ev_call en_52 rfl (cover_Knows_w x25 [2] (TSubset.mk 1 6) _ _ _ _ _ hx26 _ (Own.rd Ow13))) ?_
                    rintro _ w14 ⟨rfl, Gw14⟩
                    have z35 := Gw14.size
                    refine sd_vv rfl rfl rfl (vv_move rfl) ?_
                    refine sd_vv rfl rfl rfl (vv_extract rfl rfl) ?_
                    refine sd_vv rfl rfl rfl (vv_extract rfl rfl) ?_
                    refine sd_vv rfl rfl rfl (vv_assign rfl) ?_
                    refine sd_vv rfl rfl rfl (vv_assign rfl) ?_
                    refine sd_done ?_
                    refine sw_seq ?_
                    -- region 13 outright.go:48
                    refine sw_region [(0, 0), (1, 0), (2, 0), (3, 0), (4, 0), (5, 0), (6, 0), (7, 0), (8, 0)] rfl rfl rfl ?_
                    have hb := bnd hm; clear hm; obtain ⟨x27, hx27, hm⟩ := hb
                    refine sd_ev rfl rfl rfl (ev_call en_58 rfl (law03_of_w 2#8 2 _ hx27 _)) ?_
                    rintro _ w15 ⟨rfl, Gw15⟩
                    have z36 := Gw15.size
                    refine sd_ev rfl rfl rfl (ev_litT [0, 2] ic bsl_61_2 rfl rfl (ws_of rfl) rfl rfl rfl) ?_
                    rintro vw16 w16 ⟨gw16, hbw16, Ow16, Gw16⟩
                    have z37 := Gw16.size
                    have lt38 := Ow16.lth
                    refine sd_vv rfl rfl rfl (vv_build (cs := TSubset.cs (TSubset.mk 1 6)) bs_47 rfl rfl) ?_
                    have hb := bnd hm; clear hm; obtain ⟨x28, hx28, hm⟩ := hb
                    refine sd_ev rfl rfl rfl (ev_call en_52 rfl (cover_Knows_w x27 [0, 2] (TSubset.mk 1 6) _ _ _ _ _ hx28 _ (Own.rd Ow16))) ?_
                    rintro _ w17 ⟨rfl, Gw17⟩
                    have z39 := Gw17.size
                    refine sd_vv rfl rfl rfl (vv_move rfl) ?_
                    refine sd_vv rfl rfl rfl (vv_extract rfl rfl) ?_
                    refine sd_vv rfl rfl rfl (vv_extract rfl rfl) ?_
                    refine sd_vv rfl rfl rfl (vv_assign rfl) ?_
                    refine sd_vv rfl rfl rfl (vv_assign rfl) ?_
                    refine sd_done ?_
                    refine sw_seq ?_
                    -- region 14 outright.go:49 DRAWS
                    refine sw_drawN [([])] [] (.leaf [(0, 10), (1, 10), (2, 10), (3, 10), (4, 10), (5, 10), (6, 10), (7, 10), (8, 10), (9, 10), (10, 10), (11, 10), (12, 10), (13, 10), (14, 10), (15, 10), (16, 10), (17, 10), (18, 10), (19, 10), (20, 10), (21, 10), (22, 10), (23, 10), (24, 10), (25, 10), (26, 10), (27, 10), (28, 10), (29, 10), (30, 0), (31, 10), (32, 10), (33, 10)]) (by kernel_rfl) (by kernel_rfl) rfl (by kernel_rfl) ?_
                    intro w18 Gw18 zw18
                    refine sdz_leaf ?_
                    refine dd_hn 0 rfl rfl rfl rfl (Kp.refl ([]) w18) (fun w hS => vv_move rfl) ?_
                    refine dd_hn 0 rfl rfl rfl rfl (Kp.refl ([]) w18) (fun w hS => vv_eql (a := a17) (b := 0) rfl rfl) ?_
                    refine dd_pn 0 rfl rfl rfl rfl (Kp.refl ([]) w18) (fun w hS => vv_move rfl) (fun c3 => ?_) (fun c3 => ?_)
                    ·
                      replace hm := ite_t (of_decide_eq_true c3) hm
                      refine dd_hn 0 rfl rfl rfl rfl (Kp.refl ([]) w18) (fun w hS => vv_move rfl) ?_
                      refine dd_hn 0 rfl rfl rfl rfl (Kp.refl ([]) w18) (fun w hS => vv_eql (a := a22) (b := 0) rfl rfl) ?_
                      refine dd_hn 0 rfl rfl rfl rfl (Kp.refl ([]) w18) (fun w hS => vv_pickT rfl rfl) ?_
                      refine dd_pn 0 rfl rfl rfl rfl (Kp.refl ([]) w18) (fun w hS => vv_move rfl) (fun c4 => ?_) (fun c4 => ?_)
                      ·
                        replace hm := ite_t (of_decide_eq_true c4) hm
                        have B40 := (Bx.gr (Bx.gr (Bx.gr (Bx.gr (Bx.gr (Bx.gr (Bx.gr Fw11_0 Gw12) Gw13) Gw14) Gw15) Gw16) Gw17) Gw18)
                        refine dd_hn 0 rfl rfl rfl rfl (Kp.refl ([]) w18) (fun w hS => vv_loadW agg_26 rfl (Bx.kp B40 hS) rfl) ?_
                        have B41 := (Bx.gr (Bx.gr (Bx.gr (Bx.gr (Bx.gr (Bx.gr (Bx.gr (Bx.kz (Bx.kz (Bx.kz (Bx.kz (Bx.kz (Bx.kz Bw5 Kw6) Kw7) Kw8) Kw9) Kw10) Kw11) Gw12) Gw13) Gw14) Gw15) Gw16) Gw17) Gw18)
                        refine dd_hn 0 rfl rfl rfl rfl (Kp.refl ([]) w18) (fun w hS => vv_loadW agg_26 rfl (Bx.kp B41 hS) rfl) ?_
                        refine dd_hn 0 rfl rfl rfl rfl (Kp.refl ([]) w18) (fun w hS => vv_eqlS (cf := kb) (a := a24) (b := x5) eqt_26 rfl rfl rfl rfl (fun h => kb_inj h)) ?_
                        refine dd_hn 0 rfl rfl rfl rfl (Kp.refl ([]) w18) (fun w hS => vv_pickT rfl rfl) ?_
                        refine dd_pn 0 rfl rfl rfl rfl (Kp.refl ([]) w18) (fun w hS => vv_move rfl) (fun c5 => ?_) (fun c5 => ?_)
                        ·
                          replace hm := ite_t (of_decide_eq_true c5) hm
                          refine dd_hn 0 rfl rfl rfl rfl (Kp.refl ([]) w18) (fun w hS => vv_move rfl) ?_
                          refine dd_hn 0 rfl rfl rfl rfl (Kp.refl ([]) w18) (fun w hS => vv_eql (a := x26.2) (b := 0) rfl rfl) ?_
                          refine dd_hn 0 rfl rfl rfl rfl (Kp.refl ([]) w18) (fun w hS => vv_pickT rfl rfl) ?_
                          refine dd_pn 0 rfl rfl rfl rfl (Kp.refl ([]) w18) (fun w hS => vv_move rfl) (fun c6 => ?_) (fun c6 => ?_)
                          ·
                            replace hm := ite_t (of_decide_eq_true c6) hm
                            refine dd_hn 0 rfl rfl rfl rfl (Kp.refl ([]) w18) (fun w hS => vv_move rfl) ?_
                            refine dd_hn 0 rfl rfl rfl rfl (Kp.refl ([]) w18) (fun w hS => vv_not rfl) ?_
                            refine dd_hn 0 rfl rfl rfl rfl (Kp.refl ([]) w18) (fun w hS => vv_pickT rfl rfl) ?_
                            refine dd_pn 0 rfl rfl rfl rfl (Kp.refl ([]) w18) (fun w hS => vv_move rfl) (fun c7 => ?_) (fun c7 => ?_)
                            ·
                              replace hm := cnd_t c7 hm
                              refine dd_hn 0 rfl rfl rfl rfl (Kp.refl ([]) w18) (fun w hS => vv_move rfl) ?_
                              refine dd_hn 0 rfl rfl rfl rfl (Kp.refl ([]) w18) (fun w hS => vv_eql (a := x28.2) (b := 0) rfl rfl) ?_
                              refine dd_hn 0 rfl rfl rfl rfl (Kp.refl ([]) w18) (fun w hS => vv_pickT rfl rfl) ?_
                              refine dd_pn 0 rfl rfl rfl rfl (Kp.refl ([]) w18) (fun w hS => vv_move rfl) (fun c8 => ?_) (fun c8 => ?_)
                              ·
                                replace hm := ite_t (of_decide_eq_true c8) hm
                                refine dd_hn 0 rfl rfl rfl rfl (Kp.refl ([]) w18) (fun w hS => vv_move rfl) ?_
                                refine dd_hn 0 rfl rfl rfl rfl (Kp.refl ([]) w18) (fun w hS => vv_pickT rfl rfl) ?_
                                refine dd_pn 0 rfl rfl rfl rfl (Kp.refl ([]) w18) (fun w hS => vv_move rfl) (fun c9 => ?_) (fun c9 => ?_)
                                ·
                                  replace hm := cnd_t c9 hm
                                  refine dd_hn 0 rfl rfl rfl rfl (Kp.refl ([]) w18) (fun w hS => vv_fieldAddr fa_28_4 rfl) ?_
                                  have B42 := (Bx.gr (Bx.gr (Bx.gr (Bx.gr (Bx.gr (Bx.gr (Bx.gr (Bx.kz Fw10_4 Kw11) Gw12) Gw13) Gw14) Gw15) Gw16) Gw17) Gw18)
                                  refine dd_hn 0 rfl rfl rfl rfl (Kp.refl ([]) w18) (fun w hS => vv_loadM (vs := kb a19.Check) agg_26 rfl (Bx.kp B42 hS) rfl rfl) ?_
                                  refine dd_hn 0 rfl rfl rfl rfl (Kp.refl ([]) w18) (fun w hS => vv_loadW agg_26 rfl (Bx.kp B41 hS) rfl) ?_
                                  refine dd_z [] rfl rfl rfl (ev_call en_86 rfl (derive_c x5 (un8 53#8) (un8_nn _) (un8_le _) 0#64 _)) ⟨fun _ => tk0, trivial⟩ ?_
                                  rintro _ w19 ⟨rfl, Gw19⟩
                                  have z43 := Gw19.size
                                  refine ⟨Kz.ofGr Gw19, ?_⟩
                                  have S44 := (Kp.gr (Kp.refl ([]) w18) Gw19)
                                  refine dd_hn 0 rfl rfl rfl rfl S44 (fun w hS => vv_eqlS (cf := kb) (a := a19.Check) (b := drv x5 (un8 53#8) 0#64) eqt_26 rfl rfl rfl rfl (fun h => kb_inj h)) ?_
                                  refine dd_hn 0 rfl rfl rfl rfl S44 (fun w hS => vv_pickT rfl rfl) ?_
                                  refine dd_hn 0 rfl rfl rfl rfl S44 (fun w hS => vv_assign rfl) ?_
                                  refine sd_done ?_
                                  refine sw_ret ?_
                                  have X45 : Gr w w19 := (Gr.trans (Gr.trans (Gr.trans (Gr.trans (Gr.trans (Gr.trans (Gr.trans (Gr.trans (Gr.kz X29 Kw11) Gw12) Gw13) Gw14) Gw15) Gw16) Gw17) Gw18) Gw19)
                                  have hr := Option.some.inj hm
                                  subst hr
                                  refine ⟨_, _, rfl, res_1 rfl (rv_tmp rfl), ?_⟩
                                  exact ⟨rfl, X45⟩
                                ·
                                  replace hm := cnd_f c9 hm
                                  refine dd_sn 0 rfl rfl rfl rfl (Kp.refl ([]) w18) ?_
                                  refine dd_sn 0 rfl rfl rfl rfl (Kp.refl ([]) w18) ?_
                                  refine dd_sn 0 rfl rfl rfl rfl (Kp.refl ([]) w18) ?_
                                  refine dd_sz rfl rfl rfl ?_
                                  refine dd_sn 0 rfl rfl rfl rfl (Kp.refl ([]) w18) ?_
                                  refine dd_hn 0 rfl rfl rfl rfl (Kp.refl ([]) w18) (fun w hS => vv_pickF rfl rfl) ?_
                                  refine dd_hn 0 rfl rfl rfl rfl (Kp.refl ([]) w18) (fun w hS => vv_assign rfl) ?_
                                  refine sd_done ?_
                                  refine sw_ret ?_
                                  have X46 : Gr w w18 := (Gr.trans (Gr.trans (Gr.trans (Gr.trans (Gr.trans (Gr.trans (Gr.trans (Gr.kz X29 Kw11) Gw12) Gw13) Gw14) Gw15) Gw16) Gw17) Gw18)
                                  have hr := Option.some.inj hm
                                  subst hr
                                  refine ⟨_, _, rfl, res_1 rfl (rv_tmp rfl), ?_⟩
                                  exact ⟨rfl, X46⟩
                              ·
                                replace hm := ite_f (of_decide_eq_false c8) hm
                                refine dd_sn 0 rfl rfl rfl rfl (Kp.refl ([]) w18) ?_
                                refine dd_hn 0 rfl rfl rfl rfl (Kp.refl ([]) w18) (fun w hS => vv_pickF rfl rfl) ?_
                                refine dd_hn 0 rfl rfl rfl rfl (Kp.refl ([]) w18) (fun w hS => vv_move rfl) ?_
                                refine dd_sn 0 rfl rfl rfl rfl (Kp.refl ([]) w18) ?_
                                refine dd_sn 0 rfl rfl rfl rfl (Kp.refl ([]) w18) ?_
                                refine dd_sn 0 rfl rfl rfl rfl (Kp.refl ([]) w18) ?_
                                refine dd_sz rfl rfl rfl ?_
                                refine dd_sn 0 rfl rfl rfl rfl (Kp.refl ([]) w18) ?_
                                refine dd_hn 0 rfl rfl rfl rfl (Kp.refl ([]) w18) (fun w hS => vv_pickF rfl rfl) ?_
                                refine dd_hn 0 rfl rfl rfl rfl (Kp.refl ([]) w18) (fun w hS => vv_assign rfl) ?_
                                refine sd_done ?_
                                refine sw_ret ?_
                                have X47 : Gr w w18 := (Gr.trans (Gr.trans (Gr.trans (Gr.trans (Gr.trans (Gr.trans (Gr.trans (Gr.kz X29 Kw11) Gw12) Gw13) Gw14) Gw15) Gw16) Gw17) Gw18)
                                have hr := Option.some.inj hm
                                subst hr
                                refine ⟨_, _, rfl, res_1 rfl (rv_tmp rfl), ?_⟩
                                exact ⟨rfl, X47⟩
                            ·
                              replace hm := cnd_f c7 hm
                              refine dd_sn 0 rfl rfl rfl rfl (Kp.refl ([]) w18) ?_
                              refine dd_sn 0 rfl rfl rfl rfl (Kp.refl ([]) w18) ?_
                              refine dd_hn 0 rfl rfl rfl rfl (Kp.refl ([]) w18) (fun w hS => vv_pickF rfl rfl) ?_
                              refine dd_hn 0 rfl rfl rfl rfl (Kp.refl ([]) w18) (fun w hS => vv_move rfl) ?_
                              refine dd_sn 0 rfl rfl rfl rfl (Kp.refl ([]) w18) ?_
                              refine dd_hn 0 rfl rfl rfl rfl (Kp.refl ([]) w18) (fun w hS => vv_pickF rfl rfl) ?_
                              refine dd_hn 0 rfl rfl rfl rfl (Kp.refl ([]) w18) (fun w hS => vv_move rfl) ?_
                              refine dd_sn 0 rfl rfl rfl rfl (Kp.refl ([]) w18) ?_
                              refine dd_sn 0 rfl rfl rfl rfl (Kp.refl ([]) w18) ?_
                              refine dd_sn 0 rfl rfl rfl rfl (Kp.refl ([]) w18) ?_
                              refine dd_sz rfl rfl rfl ?_
                              refine dd_sn 0 rfl rfl rfl rfl (Kp.refl ([]) w18) ?_
                              refine dd_hn 0 rfl rfl rfl rfl (Kp.refl ([]) w18) (fun w hS => vv_pickF rfl rfl) ?_
                              refine dd_hn 0 rfl rfl rfl rfl (Kp.refl ([]) w18) (fun w hS => vv_assign rfl) ?_
                              refine sd_done ?_
                              refine sw_ret ?_
                              have X48 : Gr w w18 := (Gr.trans (Gr.trans (Gr.trans (Gr.trans (Gr.trans (Gr.trans (Gr.trans (Gr.kz X29 Kw11) Gw12) Gw13) Gw14) Gw15) Gw16) Gw17) Gw18)
                              have hr := Option.some.inj hm
                              subst hr
                              refine ⟨_, _, rfl, res_1 rfl (rv_tmp rfl), ?_⟩
                              exact ⟨rfl, X48⟩
                          ·
                            replace hm := ite_f (of_decide_eq_false c6) hm
                            refine dd_sn 0 rfl rfl rfl rfl (Kp.refl ([]) w18) ?_
                            refine dd_sn 0 rfl rfl rfl rfl (Kp.refl ([]) w18) ?_
                            refine dd_hn 0 rfl rfl rfl rfl (Kp.refl ([]) w18) (fun w hS => vv_pickF rfl rfl) ?_
                            refine dd_hn 0 rfl rfl rfl rfl (Kp.refl ([]) w18) (fun w hS => vv_move rfl) ?_
                            refine dd_sn 0 rfl rfl rfl rfl (Kp.refl ([]) w18) ?_
                            refine dd_sn 0 rfl rfl rfl rfl (Kp.refl ([]) w18) ?_
                            refine dd_hn 0 rfl rfl rfl rfl (Kp.refl ([]) w18) (fun w hS => vv_pickF rfl rfl) ?_
                            refine dd_hn 0 rfl rfl rfl rfl (Kp.refl ([]) w18) (fun w hS => vv_move rfl) ?_
                            refine dd_sn 0 rfl rfl rfl rfl (Kp.refl ([]) w18) ?_
                            refine dd_hn 0 rfl rfl rfl rfl (Kp.refl ([]) w18) (fun w hS => vv_pickF rfl rfl) ?_
                            refine dd_hn 0 rfl rfl rfl rfl (Kp.refl ([]) w18) (fun w hS => vv_move rfl) ?_
                            refine dd_sn 0 rfl rfl rfl rfl (Kp.refl ([]) w18) ?_
                            refine dd_sn 0 rfl rfl rfl rfl (Kp.refl ([]) w18) ?_
                            refine dd_sn 0 rfl rfl rfl rfl (Kp.refl ([]) w18) ?_
                            refine dd_sz rfl rfl rfl ?_
                            refine dd_sn 0 rfl rfl rfl rfl (Kp.refl ([]) w18) ?_
                            refine dd_hn 0 rfl rfl rfl rfl (Kp.refl ([]) w18) (fun w hS => vv_pickF rfl rfl) ?_
                            refine dd_hn 0 rfl rfl rfl rfl (Kp.refl ([]) w18) (fun w hS => vv_assign rfl) ?_
                            refine sd_done ?_
                            refine sw_ret ?_
                            have X49 : Gr w w18 := (Gr.trans (Gr.trans (Gr.trans (Gr.trans (Gr.trans (Gr.trans (Gr.trans (Gr.kz X29 Kw11) Gw12) Gw13) Gw14) Gw15) Gw16) Gw17) Gw18)
                            have hr := Option.some.inj hm
                            subst hr
                            refine ⟨_, _, rfl, res_1 rfl (rv_tmp rfl), ?_⟩
                            exact ⟨rfl, X49⟩
                        ·
                          replace hm := ite_f (of_decide_eq_false c5) hm
                          refine dd_sn 0 rfl rfl rfl rfl (Kp.refl ([]) w18) ?_
                          refine dd_sn 0 rfl rfl rfl rfl (Kp.refl ([]) w18) ?_
                          refine dd_hn 0 rfl rfl rfl rfl (Kp.refl ([]) w18) (fun w hS => vv_pickF rfl rfl) ?_
                          refine dd_hn 0 rfl rfl rfl rfl (Kp.refl ([]) w18) (fun w hS => vv_move rfl) ?_
                          refine dd_sn 0 rfl rfl rfl rfl (Kp.refl ([]) w18) ?_
                          refine dd_sn 0 rfl rfl rfl rfl (Kp.refl ([]) w18) ?_
                          refine dd_hn 0 rfl rfl rfl rfl (Kp.refl ([]) w18) (fun w hS => vv_pickF rfl rfl) ?_
                          refine dd_hn 0 rfl rfl rfl rfl (Kp.refl ([]) w18) (fun w hS => vv_move rfl) ?_
                          refine dd_sn 0 rfl rfl rfl rfl (Kp.refl ([]) w18) ?_
                          refine dd_sn 0 rfl rfl rfl rfl (Kp.refl ([]) w18) ?_
                          refine dd_hn 0 rfl rfl rfl rfl (Kp.refl ([]) w18) (fun w hS => vv_pickF rfl rfl) ?_
                          refine dd_hn 0 rfl rfl rfl rfl (Kp.refl ([]) w18) (fun w hS => vv_move rfl) ?_
                          refine dd_sn 0 rfl rfl rfl rfl (Kp.refl ([]) w18) ?_
                          refine dd_hn 0 rfl rfl rfl rfl (Kp.refl ([]) w18) (fun w hS => vv_pickF rfl rfl) ?_
                          refine dd_hn 0 rfl rfl rfl rfl (Kp.refl ([]) w18) (fun w hS => vv_move rfl) ?_
                          refine dd_sn 0 rfl rfl rfl rfl (Kp.refl ([]) w18) ?_
                          refine dd_sn 0 rfl rfl rfl rfl (Kp.refl ([]) w18) ?_
                          refine dd_sn 0 rfl rfl rfl rfl (Kp.refl ([]) w18) ?_
                          refine dd_sz rfl rfl rfl ?_
                          refine dd_sn 0 rfl rfl rfl rfl (Kp.refl ([]) w18) ?_
                          refine dd_hn 0 rfl rfl rfl rfl (Kp.refl ([]) w18) (fun w hS => vv_pickF rfl rfl) ?_
                          refine dd_hn 0 rfl rfl rfl rfl (Kp.refl ([]) w18) (fun w hS => vv_assign rfl) ?_
                          refine sd_done ?_
                          refine sw_ret ?_
                          have X50 : Gr w w18 := (Gr.trans (Gr.trans (Gr.trans (Gr.trans (Gr.trans (Gr.trans (Gr.trans (Gr.kz X29 Kw11) Gw12) Gw13) Gw14) Gw15) Gw16) Gw17) Gw18)
                          have hr := Option.some.inj hm
                          subst hr
                          refine ⟨_, _, rfl, res_1 rfl (rv_tmp rfl), ?_⟩
                          exact ⟨rfl, X50⟩
                      ·
                        replace hm := ite_f (of_decide_eq_false c4) hm
                        refine dd_sn 0 rfl rfl rfl rfl (Kp.refl ([]) w18) ?_
                        refine dd_sn 0 rfl rfl rfl rfl (Kp.refl ([]) w18) ?_
                        refine dd_sn 0 rfl rfl rfl rfl (Kp.refl ([]) w18) ?_
                        refine dd_hn 0 rfl rfl rfl rfl (Kp.refl ([]) w18) (fun w hS => vv_pickF rfl rfl) ?_
                        refine dd_hn 0 rfl rfl rfl rfl (Kp.refl ([]) w18) (fun w hS => vv_move rfl) ?_
                        refine dd_sn 0 rfl rfl rfl rfl (Kp.refl ([]) w18) ?_
                        refine dd_sn 0 rfl rfl rfl rfl (Kp.refl ([]) w18) ?_
                        refine dd_hn 0 rfl rfl rfl rfl (Kp.refl ([]) w18) (fun w hS => vv_pickF rfl rfl) ?_
                        refine dd_hn 0 rfl rfl rfl rfl (Kp.refl ([]) w18) (fun w hS => vv_move rfl) ?_
                        refine dd_sn 0 rfl rfl rfl rfl (Kp.refl ([]) w18) ?_
                        refine dd_sn 0 rfl rfl rfl rfl (Kp.refl ([]) w18) ?_
                        refine dd_hn 0 rfl rfl rfl rfl (Kp.refl ([]) w18) (fun w hS => vv_pickF rfl rfl) ?_
                        refine dd_hn 0 rfl rfl rfl rfl (Kp.refl ([]) w18) (fun w hS => vv_move rfl) ?_
                        refine dd_sn 0 rfl rfl rfl rfl (Kp.refl ([]) w18) ?_
                        refine dd_sn 0 rfl rfl rfl rfl (Kp.refl ([]) w18) ?_
                        refine dd_hn 0 rfl rfl rfl rfl (Kp.refl ([]) w18) (fun w hS => vv_pickF rfl rfl) ?_
                        refine dd_hn 0 rfl rfl rfl rfl (Kp.refl ([]) w18) (fun w hS => vv_move rfl) ?_
                        refine dd_sn 0 rfl rfl rfl rfl (Kp.refl ([]) w18) ?_
                        refine dd_hn 0 rfl rfl rfl rfl (Kp.refl ([]) w18) (fun w hS => vv_pickF rfl rfl) ?_
                        refine dd_hn 0 rfl rfl rfl rfl (Kp.refl ([]) w18) (fun w hS => vv_move rfl) ?_
                        refine dd_sn 0 rfl rfl rfl rfl (Kp.refl ([]) w18) ?_
                        refine dd_sn 0 rfl rfl rfl rfl (Kp.refl ([]) w18) ?_
                        refine dd_sn 0 rfl rfl rfl rfl (Kp.refl ([]) w18) ?_
                        refine dd_sz rfl rfl rfl ?_
                        refine dd_sn 0 rfl rfl rfl rfl (Kp.refl ([]) w18) ?_
                        refine dd_hn 0 rfl rfl rfl rfl (Kp.refl ([]) w18) (fun w hS => vv_pickF rfl rfl) ?_
                        refine dd_hn 0 rfl rfl rfl rfl (Kp.refl ([]) w18) (fun w hS => vv_assign rfl) ?_
                        refine sd_done ?_
                        refine sw_ret ?_
                        have X51 : Gr w w18 := (Gr.trans (Gr.trans (Gr.trans (Gr.trans (Gr.trans (Gr.trans (Gr.trans (Gr.kz X29 Kw11) Gw12) Gw13) Gw14) Gw15) Gw16) Gw17) Gw18)
                        have hr := Option.some.inj hm
                        subst hr
                        refine ⟨_, _, rfl, res_1 rfl (rv_tmp rfl), ?_⟩
                        exact ⟨rfl, X51⟩
                    ·
                      replace hm := ite_f (of_decide_eq_false c3) hm
                      refine dd_sn 0 rfl rfl rfl rfl (Kp.refl ([]) w18) ?_
                      refine dd_sn 0 rfl rfl rfl rfl (Kp.refl ([]) w18) ?_
                      refine dd_hn 0 rfl rfl rfl rfl (Kp.refl ([]) w18) (fun w hS => vv_pickF rfl rfl) ?_
                      refine dd_hn 0 rfl rfl rfl rfl (Kp.refl ([]) w18) (fun w hS => vv_move rfl) ?_
                      refine dd_sn 0 rfl rfl rfl rfl (Kp.refl ([]) w18) ?_
                      refine dd_sn 0 rfl rfl rfl rfl (Kp.refl ([]) w18) ?_
                      refine dd_sn 0 rfl rfl rfl rfl (Kp.refl ([]) w18) ?_
                      refine dd_hn 0 rfl rfl rfl rfl (Kp.refl ([]) w18) (fun w hS => vv_pickF rfl rfl) ?_
                      refine dd_hn 0 rfl rfl rfl rfl (Kp.refl ([]) w18) (fun w hS => vv_move rfl) ?_
                      refine dd_sn 0 rfl rfl rfl rfl (Kp.refl ([]) w18) ?_
                      refine dd_sn 0 rfl rfl rfl rfl (Kp.refl ([]) w18) ?_
                      refine dd_hn 0 rfl rfl rfl rfl (Kp.refl ([]) w18) (fun w hS => vv_pickF rfl rfl) ?_
                      refine dd_hn 0 rfl rfl rfl rfl (Kp.refl ([]) w18) (fun w hS => vv_move rfl) ?_
                      refine dd_sn 0 rfl rfl rfl rfl (Kp.refl ([]) w18) ?_
                      refine dd_sn 0 rfl rfl rfl rfl (Kp.refl ([]) w18) ?_
                      refine dd_hn 0 rfl rfl rfl rfl (Kp.refl ([]) w18) (fun w hS => vv_pickF rfl rfl) ?_
                      refine dd_hn 0 rfl rfl rfl rfl (Kp.refl ([]) w18) (fun w hS => vv_move rfl) ?_
                      refine dd_sn 0 rfl rfl rfl rfl (Kp.refl ([]) w18) ?_
                      refine dd_sn 0 rfl rfl rfl rfl (Kp.refl ([]) w18) ?_
                      refine dd_hn 0 rfl rfl rfl rfl (Kp.refl ([]) w18) (fun w hS => vv_pickF rfl rfl) ?_
                      refine dd_hn 0 rfl rfl rfl rfl (Kp.refl ([]) w18) (fun w hS => vv_move rfl) ?_
                      refine dd_sn 0 rfl rfl rfl rfl (Kp.refl ([]) w18) ?_
                      refine dd_hn 0 rfl rfl rfl rfl (Kp.refl ([]) w18) (fun w hS => vv_pickF rfl rfl) ?_
                      refine dd_hn 0 rfl rfl rfl rfl (Kp.refl ([]) w18) (fun w hS => vv_move rfl) ?_
                      refine dd_sn 0 rfl rfl rfl rfl (Kp.refl ([]) w18) ?_
                      refine dd_sn 0 rfl rfl rfl rfl (Kp.refl ([]) w18) ?_
                      refine dd_sn 0 rfl rfl rfl rfl (Kp.refl ([]) w18) ?_
                      refine dd_sz rfl rfl rfl ?_
                      refine dd_sn 0 rfl rfl rfl rfl (Kp.refl ([]) w18) ?_
                      refine dd_hn 0 rfl rfl rfl rfl (Kp.refl ([]) w18) (fun w hS => vv_pickF rfl rfl) ?_
                      refine dd_hn 0 rfl rfl rfl rfl (Kp.refl ([]) w18) (fun w hS => vv_assign rfl) ?_
                      refine sd_done ?_
                      refine sw_ret ?_
                      have X52 : Gr w w18 := (Gr.trans (Gr.trans (Gr.trans (Gr.trans (Gr.trans (Gr.trans (Gr.trans (Gr.kz X29 Kw11) Gw12) Gw13) Gw14) Gw15) Gw16) Gw17) Gw18)
                      have hr := Option.some.inj hm
                      subst hr
                      refine ⟨_, _, rfl, res_1 rfl (rv_tmp rfl), ?_⟩
                      exact ⟨rfl, X52⟩
                  ·
                    -- region 11 outright.go:46 DRAWS
                    refine sw_drawN [([])] [] (.fork [(1, 10), (2, 10)] (.fork [(0, 0)] (.leaf [(3, 0), (4, 10), (5, 10), (6, 10), (7, 0), (8, 0), (9, 10)]) (.leaf [(7, 0), (3, 0), (4, 10), (5, 10), (6, 10), (8, 0), (9, 10)])) (.leaf [(7, 0), (0, 0), (3, 0), (4, 10), (5, 10), (6, 10), (8, 0), (9, 10)])) (by kernel_rfl) (by kernel_rfl) rfl (by kernel_rfl) ?_
                    intro w20 Gw20 zw20
                    refine sdz_fork ?_
                    have B53 := (Bx.gr (Bx.kz (Bx.kz (Bx.kz (Bx.kz Fw6_2 Kw7) Kw8) Kw9) Kw10) Gw20)
                    refine dd_hn 0 rfl rfl rfl rfl (Kp.refl ([]) w20) (fun w hS => vv_loadW agg_74 rfl (Bx.kp B53 hS) rfl) ?_
                    have B54 := (Bx.gr Fw10_4 Gw20)
                    refine dd_hn 0 rfl rfl rfl rfl (Kp.refl ([]) w20) (fun w hS => vv_loadW agg_28 rfl (Bx.kp B54 hS) rfl) ?_
                    refine sd_fork ?_ ?_
                    ·
                      refine sdz_fork ?_
                      have hb := bnd hm; clear hm; obtain ⟨x29, hx29, hm⟩ := hb
                      refine dd_z [] rfl rfl rfl (ev_call en_58 rfl (law03_of_w 2#8 2 _ hx29 _)) ⟨fun _ => tk0, trivial⟩ ?_
                      rintro _ w21 ⟨rfl, Gw21⟩
                      have z55 := Gw21.size
                      refine ⟨Kz.ofGr Gw21, ?_⟩
                      refine sd_fork ?_ ?_
                      ·
                        refine sdz_leaf ?_
                        have B56 := (Own.gr (Own.gr (Own.kz (Own.kz (Own.kz (Own.kz Fw6_0 Kw7) Kw8) Kw9) Kw10) Gw20) Gw21)
                        have B57 := (Own.gr (Own.gr Fw10_0 Gw20) Gw21)
                        have B58 := (Own.gr (Own.gr Fw10_2 Gw20) Gw21)
                        have hb := bnd hm; clear hm; obtain ⟨x30, hx30, hm⟩ := hb
                        refine dd_z [] rfl rfl rfl (ev_call en_44 rfl (cover_Open_w x29 a7 a19 _ _ _ _ _ _ _ _ _ _ _ _ _ hx30 _ (Own.rd B56) (Own.rd B57) (Own.rd B58))) ⟨fun _ => tk0, trivial⟩ ?_
                        rintro _ w22 ⟨rfl, Gw22⟩
                        have z59 := Gw22.size
                        refine ⟨Kz.ofGr Gw22, ?_⟩
                        have S60 := (Kp.gr (Kp.gr (Kp.refl ([]) w20) Gw21) Gw22)
                        refine dd_hn 0 rfl rfl rfl rfl S60 (fun w hS => vv_move rfl) ?_
                        refine dd_hn 0 rfl rfl rfl rfl S60 (fun w hS => vv_extract rfl rfl) ?_
                        refine dd_hn 0 rfl rfl rfl rfl S60 (fun w hS => vv_extract rfl rfl) ?_
                        refine dd_z [] rfl rfl rfl (ev_alloc (cs := kb k0) zv_26 rfl) ⟨fun _ => tk0, trivial⟩ ?_
                        rintro _ w23 ⟨b23, rfl, hbw23, Bw23, Gw23⟩
                        have z61 := Gw23.size
                        have lt62 := Bw23.lt
                        refine ⟨Kz.ofGr Gw23, ?_⟩
                        refine dd_z [(1, b23)] rfl rfl rfl (ev_stM (cs' := kb x30.1) (vs := kb x30.1) (agg_26).siz rfl rfl rfl rfl rfl Bw23 rfl rfl) ⟨fun _ => tk0, trivial⟩ ?_
                        rintro _ w24 ⟨Bw24, Mw24⟩
                        have z63 := Mw24.size
                        refine ⟨Kz.ofMd Mw24, ?_⟩
                        have S64 := (Kp.md (Kp.gr S60 Gw23) Mw24)
                        refine dd_hn 0 rfl rfl rfl rfl S64 (fun w hS => vv_assign rfl) ?_
                        refine sd_nil ?_
                        have K_65 : Kz [] w10 w24 := (Kz.md (Kz.gr (Kz.gr (Kz.gr (Kz.gr (Kz.refl _ _) Gw20) Gw21) Gw22) Gw23) Mw24)
                        refine ⟨rfl, ⟨x30.2, x30.1, b23⟩, ?_, hm, Bw24, (by omega), K_65⟩
                        repeat' first | exact trivial | refine ⟨rfl, ?_⟩
                      ·
                        refine sdz_leaf ?_
                        refine dd_z [] rfl rfl rfl (ev_alloc (cs := kb k0) zv_26 rfl) ⟨fun _ => tk0, trivial⟩ ?_
                        rintro _ w25 ⟨b25, rfl, hbw25, Bw25, Gw25⟩
                        have z66 := Gw25.size
                        have lt67 := Bw25.lt
                        refine ⟨Kz.ofGr Gw25, ?_⟩
                        have B68 := (Own.gr (Own.gr (Own.gr (Own.kz (Own.kz (Own.kz (Own.kz Fw6_0 Kw7) Kw8) Kw9) Kw10) Gw20) Gw21) Gw25)
                        have B69 := (Own.gr (Own.gr (Own.gr Fw10_0 Gw20) Gw21) Gw25)
                        have B70 := (Own.gr (Own.gr (Own.gr Fw10_2 Gw20) Gw21) Gw25)
                        have hb := bnd hm; clear hm; obtain ⟨x31, hx31, hm⟩ := hb
                        refine dd_z [] rfl rfl rfl (ev_call en_44 rfl (cover_Open_w x29 a7 a19 _ _ _ _ _ _ _ _ _ _ _ _ _ hx31 _ (Own.rd B68) (Own.rd B69) (Own.rd B70))) ⟨fun _ => tk0, trivial⟩ ?_
                        rintro _ w26 ⟨rfl, Gw26⟩
                        have z71 := Gw26.size
                        refine ⟨Kz.ofGr Gw26, ?_⟩
                        have S72 := (Kp.gr (Kp.gr (Kp.gr (Kp.refl ([]) w20) Gw21) Gw25) Gw26)
                        refine dd_hn 0 rfl rfl rfl rfl S72 (fun w hS => vv_move rfl) ?_
                        refine dd_hn 0 rfl rfl rfl rfl S72 (fun w hS => vv_extract rfl rfl) ?_
                        refine dd_hn 0 rfl rfl rfl rfl S72 (fun w hS => vv_extract rfl rfl) ?_
                        have B73 := (Bx.gr Bw25 Gw26)
                        refine dd_z [(1, b25)] rfl rfl rfl (ev_stM (cs' := kb x31.1) (vs := kb x31.1) (agg_26).siz rfl rfl rfl rfl rfl B73 rfl rfl) ⟨fun _ => tk0, trivial⟩ ?_
                        rintro _ w27 ⟨Bw27, Mw27⟩
                        have z74 := Mw27.size
                        refine ⟨Kz.ofMd Mw27, ?_⟩
                        have S75 := (Kp.md S72 Mw27)
                        refine dd_hn 0 rfl rfl rfl rfl S75 (fun w hS => vv_assign rfl) ?_
                        refine sd_nil ?_
                        have K_76 : Kz [] w10 w27 := (Kz.md (Kz.gr (Kz.gr (Kz.gr (Kz.gr (Kz.refl _ _) Gw20) Gw21) Gw25) Gw26) Mw27)
                        refine ⟨rfl, ⟨x31.2, x31.1, b25⟩, ?_, hm, Bw27, (by omega), K_76⟩
                        repeat' first | exact trivial | refine ⟨rfl, ?_⟩
                    ·
                      refine sdz_leaf ?_
                      refine dd_z [] rfl rfl rfl (ev_alloc (cs := kb k0) zv_26 rfl) ⟨fun _ => tk0, trivial⟩ ?_
                      rintro _ w28 ⟨b28, rfl, hbw28, Bw28, Gw28⟩
                      have z77 := Gw28.size
                      have lt78 := Bw28.lt
                      refine ⟨Kz.ofGr Gw28, ?_⟩
                      have hb := bnd hm; clear hm; obtain ⟨x32, hx32, hm⟩ := hb
                      refine dd_z [] rfl rfl rfl (ev_call en_58 rfl (law03_of_w 2#8 2 _ hx32 _)) ⟨fun _ => tk0, trivial⟩ ?_
                      rintro _ w29 ⟨rfl, Gw29⟩
                      have z79 := Gw29.size
                      refine ⟨Kz.ofGr Gw29, ?_⟩
                      have B80 := (Own.gr (Own.gr (Own.gr (Own.kz (Own.kz (Own.kz (Own.kz Fw6_0 Kw7) Kw8) Kw9) Kw10) Gw20) Gw28) Gw29)
                      have B81 := (Own.gr (Own.gr (Own.gr Fw10_0 Gw20) Gw28) Gw29)
                      have B82 := (Own.gr (Own.gr (Own.gr Fw10_2 Gw20) Gw28) Gw29)
                      have hb := bnd hm; clear hm; obtain ⟨x33, hx33, hm⟩ := hb
                      refine dd_z [] rfl rfl rfl (ev_call en_44 rfl (cover_Open_w x32 a7 a19 _ _ _ _ _ _ _ _ _ _ _ _ _ hx33 _ (Own.rd B80) (Own.rd B81) (Own.rd B82))) ⟨fun _ => tk0, trivial⟩ ?_
                      rintro _ w30 ⟨rfl, Gw30⟩
                      have z83 := Gw30.size
                      refine ⟨Kz.ofGr Gw30, ?_⟩
                      have S84 := (Kp.gr (Kp.gr (Kp.gr (Kp.refl ([]) w20) Gw28) Gw29) Gw30)
                      refine dd_hn 0 rfl rfl rfl rfl S84 (fun w hS => vv_move rfl) ?_
                      refine dd_hn 0 rfl rfl rfl rfl S84 (fun w hS => vv_extract rfl rfl) ?_
                      refine dd_hn 0 rfl rfl rfl rfl S84 (fun w hS => vv_extract rfl rfl) ?_
                      have B85 := (Bx.gr (Bx.gr Bw28 Gw29) Gw30)
                      refine dd_z [(1, b28)] rfl rfl rfl (ev_stM (cs' := kb x33.1) (vs := kb x33.1) (agg_26).siz rfl rfl rfl rfl rfl B85 rfl rfl) ⟨fun _ => tk0, trivial⟩ ?_
                      rintro _ w31 ⟨Bw31, Mw31⟩
                      have z86 := Mw31.size
                      refine ⟨Kz.ofMd Mw31, ?_⟩
                      have S87 := (Kp.md S84 Mw31)
                      refine dd_hn 0 rfl rfl rfl rfl S87 (fun w hS => vv_assign rfl) ?_
                      refine sd_nil ?_
                      have K_88 : Kz [] w10 w31 := (Kz.md (Kz.gr (Kz.gr (Kz.gr (Kz.gr (Kz.refl _ _) Gw20) Gw28) Gw29) Gw30) Mw31)
                      refine ⟨rfl, ⟨x33.2, x33.1, b28⟩, ?_, hm, Bw31, (by omega), K_88⟩
                      repeat' first | exact trivial | refine ⟨rfl, ?_⟩
                ·
                  -- region 10 outright.go:45 DRAWS
                  refine sw_drawN [([])] [] (.fork [(0, 10), (2, 10), (4, 10)] (.fork [(1, 0)] (.fork [(3, 0)] (.leaf [(5, 0), (6, 10), (7, 10), (8, 10), (9, 0), (10, 0), (11, 10)]) (.leaf [(9, 0), (5, 0), (6, 10), (7, 10), (8, 10), (10, 0), (11, 10)])) (.leaf [(9, 0), (3, 0), (5, 0), (6, 10), (7, 10), (8, 10), (10, 0), (11, 10)])) (.fork [] (.fork [(3, 0)] (.fork [(1, 0)] (.leaf [(5, 0), (6, 10), (7, 10), (8, 10), (9, 0), (10, 0), (11, 10)]) (.leaf [(9, 0), (5, 0), (6, 10), (7, 10), (8, 10), (10, 0), (11, 10)])) (.leaf [(9, 0), (1, 0), (5, 0), (6, 10), (7, 10), (8, 10), (10, 0), (11, 10)])) (.fork [(9, 0)] (.leaf [(1, 0), (3, 0), (5, 0), (6, 10), (7, 10), (8, 10), (10, 0), (11, 10)]) (.leaf [(3, 0), (1, 0), (5, 0), (6, 10), (7, 10), (8, 10), (10, 0), (11, 10)])))) (by kernel_rfl) (by kernel_rfl) rfl (by kernel_rfl) ?_
                  intro w32 Gw32 zw32
                  refine sdz_fork ?_
                  have B89 := (Bx.gr (Bx.kz (Bx.kz (Bx.kz (Bx.kz (Bx.md Bw4 Mw5) Kw6) Kw7) Kw8) Kw9) Gw32)
                  refine dd_hn 0 rfl rfl rfl rfl (Kp.refl ([]) w32) (fun w hS => vv_loadW agg_26 rfl (Bx.kp B89 hS) rfl) ?_
                  refine dd_hn 0 rfl rfl rfl rfl (Kp.refl ([]) w32) (fun w hS => vv_build (cs := TSubset.cs (TSubset.mk 1 6)) bs_47 rfl rfl) ?_
                  have B90 := (Bx.gr (Bx.kz (Bx.kz (Bx.kz (Bx.kz Bw5 Kw6) Kw7) Kw8) Kw9) Gw32)
                  refine dd_hn 0 rfl rfl rfl rfl (Kp.refl ([]) w32) (fun w hS => vv_loadW agg_26 rfl (Bx.kp B90 hS) rfl) ?_
                  refine sd_fork ?_ (sdz_fork (sd_fork ?_ ?_))
                  ·
                    refine sdz_fork ?_
                    have hb := bnd hm; clear hm; obtain ⟨x34, hx34, hm⟩ := hb
                    refine dd_z [] rfl rfl rfl (ev_call en_58 rfl (law03_of_w 2#8 2 _ hx34 _)) ⟨fun _ => tk0, trivial⟩ ?_
                    rintro _ w33 ⟨rfl, Gw33⟩
                    have z91 := Gw33.size
                    refine ⟨Kz.ofGr Gw33, ?_⟩
                    refine sd_fork ?_ ?_
                    ·
                      refine sdz_fork ?_
                      refine dd_z [] rfl rfl rfl (ev_litT [(TSubset.mk 1 6)] TSubset.cs bsl_48_1 rfl rfl (ws_of rfl) rfl rfl rfl) ⟨fun _ => tk0, trivial⟩ ?_
                      rintro vw34 w34 ⟨gw34, hbw34, Ow34, Gw34⟩
                      have z92 := Gw34.size
                      have lt93 := Ow34.lth
                      refine ⟨Kz.ofGr Gw34, ?_⟩
                      refine sd_fork ?_ ?_
                      ·
                        refine sdz_leaf ?_
                        have hb := bnd hm; clear hm; obtain ⟨x35, hx35, hm⟩ := hb
                        refine dd_z [] rfl rfl rfl (ev_call en_38 rfl (cover_Seal_w x3 x34 [(TSubset.mk 1 6)] x5 _ _ _ _ _ hx35 _ (Own.rd Ow34))) ⟨fun _ => tk0, trivial⟩ ?_
                        rintro _ w35 ⟨u35_r0_0, z35_r0_0, g35_r0_0, u35_r0_2, z35_r0_2, g35_r0_2, rfl, O35_r0_0, f35_r0_0, O35_r0_2, f35_r0_2, d35_0, Gw35⟩
                        have z94 := Gw35.size
                        have lt95 := O35_r0_0.lth
                        have lt96 := O35_r0_2.lth
                        refine ⟨Kz.ofGr Gw35, ?_⟩
                        have S97 := (Kp.gr (Kp.gr (Kp.gr (Kp.refl ([]) w32) Gw33) Gw34) Gw35)
                        refine dd_hn 0 rfl rfl rfl rfl S97 (fun w hS => vv_move rfl) ?_
                        refine dd_hn 0 rfl rfl rfl rfl S97 (fun w hS => vv_extract rfl rfl) ?_
                        refine dd_hn 0 rfl rfl rfl rfl S97 (fun w hS => vv_extract rfl rfl) ?_
                        refine dd_z [] rfl rfl rfl (ev_alloc (cs := THeader.cs (THeader.mk [] 0#64 [] k0 k0) (.slice none 0 0) (.slice none 0 0)) zv_28 rfl) ⟨fun _ => tk0, trivial⟩ ?_
                        rintro _ w36 ⟨b36, rfl, hbw36, Bw36, Gw36⟩
                        have z98 := Gw36.size
                        have lt99 := Bw36.lt
                        refine ⟨Kz.ofGr Gw36, ?_⟩
                        have B100 := (Own.gr O35_r0_0 Gw36)
                        have B101 := (Own.gr O35_r0_2 Gw36)
                        refine dd_z [(1, b36)] rfl rfl rfl (ev_stM (cs' := THeader.cs x35.1 u35_r0_0 u35_r0_2) (vs := THeader.cs x35.1 u35_r0_0 u35_r0_2) (agg_28).siz rfl rfl rfl rfl (THeader.cs_ones _ _ _ (Own.oneB B100) (Own.oneB B101)) Bw36 rfl rfl) ⟨fun _ => tk0, trivial⟩ ?_
                        rintro _ w37 ⟨Bw37, Mw37⟩
                        have z102 := Mw37.size
                        refine ⟨Kz.ofMd Mw37, ?_⟩
                        have S103 := (Kp.md (Kp.gr S97 Gw36) Mw37)
                        refine dd_hn 0 rfl rfl rfl rfl S103 (fun w hS => vv_assign rfl) ?_
                        refine sd_nil ?_
                        have K_104 : Kz [] w9 w37 := (Kz.md (Kz.gr (Kz.gr (Kz.gr (Kz.gr (Kz.gr (Kz.refl _ _) Gw32) Gw33) Gw34) Gw35) Gw36) Mw37)
                        have B105 := (Own.md B100 Mw37 (tk1 ((pv_lt (A := (fun x => x ≠ b36)) lt95) : z35_r0_0 = 0 ∨ g35_r0_0 ≠ b36)))
                        have B106 := (Own.md B101 Mw37 (tk1 ((pv_lt (A := (fun x => x ≠ b36)) lt96) : z35_r0_2 = 0 ∨ g35_r0_2 ≠ b36)))
                        refine ⟨rfl, ⟨x35.2, x35.1, b36, u35_r0_0, z35_r0_0, g35_r0_0, u35_r0_2, z35_r0_2, g35_r0_2⟩, ?_, hm, B105, ⟨(pv_0 (A := (fun x => w9.heap.size ≤ x)) f35_r0_0)⟩, B106, ⟨(pv_0 (A := (fun x => w9.heap.size ≤ x)) f35_r0_2)⟩, Bw37, (by omega), ⟨(tk1 d35_0.o)⟩, ⟨(pv_lt (A := (fun x => x ≠ b36)) lt95)⟩, ⟨(pv_lt (A := (fun x => x ≠ b36)) lt96)⟩, K_104⟩
                        repeat' first | exact trivial | refine ⟨rfl, ?_⟩
                      ·
                        refine sdz_leaf ?_
                        refine dd_z [] rfl rfl rfl (ev_alloc (cs := THeader.cs (THeader.mk [] 0#64 [] k0 k0) (.slice none 0 0) (.slice none 0 0)) zv_28 rfl) ⟨fun _ => tk0, trivial⟩ ?_
                        rintro _ w38 ⟨b38, rfl, hbw38, Bw38, Gw38⟩
                        have z107 := Gw38.size
                        have lt108 := Bw38.lt
                        refine ⟨Kz.ofGr Gw38, ?_⟩
                        have B109 := (Own.gr Ow34 Gw38)
                        have hb := bnd hm; clear hm; obtain ⟨x36, hx36, hm⟩ := hb
                        refine dd_z [] rfl rfl rfl (ev_call en_38 rfl (cover_Seal_w x3 x34 [(TSubset.mk 1 6)] x5 _ _ _ _ _ hx36 _ (Own.rd B109))) ⟨fun _ => tk0, trivial⟩ ?_
                        rintro _ w39 ⟨u39_r0_0, z39_r0_0, g39_r0_0, u39_r0_2, z39_r0_2, g39_r0_2, rfl, O39_r0_0, f39_r0_0, O39_r0_2, f39_r0_2, d39_0, Gw39⟩
                        have z110 := Gw39.size
                        have lt111 := O39_r0_0.lth
                        have lt112 := O39_r0_2.lth
                        refine ⟨Kz.ofGr Gw39, ?_⟩
                        have S113 := (Kp.gr (Kp.gr (Kp.gr (Kp.gr (Kp.refl ([]) w32) Gw33) Gw34) Gw38) Gw39)
                        refine dd_hn 0 rfl rfl rfl rfl S113 (fun w hS => vv_move rfl) ?_
                        refine dd_hn 0 rfl rfl rfl rfl S113 (fun w hS => vv_extract rfl rfl) ?_
                        refine dd_hn 0 rfl rfl rfl rfl S113 (fun w hS => vv_extract rfl rfl) ?_
                        have B114 := (Bx.gr Bw38 Gw39)
                        refine dd_z [(1, b38)] rfl rfl rfl (ev_stM (cs' := THeader.cs x36.1 u39_r0_0 u39_r0_2) (vs := THeader.cs x36.1 u39_r0_0 u39_r0_2) (agg_28).siz rfl rfl rfl rfl (THeader.cs_ones _ _ _ (Own.oneB O39_r0_0) (Own.oneB O39_r0_2)) B114 rfl rfl) ⟨fun _ => tk0, trivial⟩ ?_
                        rintro _ w40 ⟨Bw40, Mw40⟩
                        have z115 := Mw40.size
                        refine ⟨Kz.ofMd Mw40, ?_⟩
                        have S116 := (Kp.md S113 Mw40)
                        refine dd_hn 0 rfl rfl rfl rfl S116 (fun w hS => vv_assign rfl) ?_
                        refine sd_nil ?_
                        have K_117 : Kz [] w9 w40 := (Kz.md (Kz.gr (Kz.gr (Kz.gr (Kz.gr (Kz.gr (Kz.refl _ _) Gw32) Gw33) Gw34) Gw38) Gw39) Mw40)
                        have B118 := (Own.md O39_r0_0 Mw40 (tk1 ((pv_0 (A := (fun x => x ≠ b38)) f39_r0_0) : z39_r0_0 = 0 ∨ g39_r0_0 ≠ b38)))
                        have B119 := (Own.md O39_r0_2 Mw40 (tk1 ((pv_0 (A := (fun x => x ≠ b38)) f39_r0_2) : z39_r0_2 = 0 ∨ g39_r0_2 ≠ b38)))
                        refine ⟨rfl, ⟨x36.2, x36.1, b38, u39_r0_0, z39_r0_0, g39_r0_0, u39_r0_2, z39_r0_2, g39_r0_2⟩, ?_, hm, B118, ⟨(pv_0 (A := (fun x => w9.heap.size ≤ x)) f39_r0_0)⟩, B119, ⟨(pv_0 (A := (fun x => w9.heap.size ≤ x)) f39_r0_2)⟩, Bw40, (by omega), ⟨(tk1 d39_0.o)⟩, ⟨(pv_0 (A := (fun x => x ≠ b38)) f39_r0_0)⟩, ⟨(pv_0 (A := (fun x => x ≠ b38)) f39_r0_2)⟩, K_117⟩
                        repeat' first | exact trivial | refine ⟨rfl, ?_⟩
                    ·
                      refine sdz_leaf ?_
                      refine dd_z [] rfl rfl rfl (ev_alloc (cs := THeader.cs (THeader.mk [] 0#64 [] k0 k0) (.slice none 0 0) (.slice none 0 0)) zv_28 rfl) ⟨fun _ => tk0, trivial⟩ ?_
                      rintro _ w41 ⟨b41, rfl, hbw41, Bw41, Gw41⟩
                      have z120 := Gw41.size
                      have lt121 := Bw41.lt
                      refine ⟨Kz.ofGr Gw41, ?_⟩
                      refine dd_z [] rfl rfl rfl (ev_litT [(TSubset.mk 1 6)] TSubset.cs bsl_48_1 rfl rfl (ws_of rfl) rfl rfl rfl) ⟨fun _ => tk0, trivial⟩ ?_
                      rintro vw42 w42 ⟨gw42, hbw42, Ow42, Gw42⟩
                      have z122 := Gw42.size
                      have lt123 := Ow42.lth
                      refine ⟨Kz.ofGr Gw42, ?_⟩
                      have hb := bnd hm; clear hm; obtain ⟨x37, hx37, hm⟩ := hb
                      refine dd_z [] rfl rfl rfl (ev_call en_38 rfl (cover_Seal_w x3 x34 [(TSubset.mk 1 6)] x5 _ _ _ _ _ hx37 _ (Own.rd Ow42))) ⟨fun _ => tk0, trivial⟩ ?_
                      rintro _ w43 ⟨u43_r0_0, z43_r0_0, g43_r0_0, u43_r0_2, z43_r0_2, g43_r0_2, rfl, O43_r0_0, f43_r0_0, O43_r0_2, f43_r0_2, d43_0, Gw43⟩
                      have z124 := Gw43.size
                      have lt125 := O43_r0_0.lth
                      have lt126 := O43_r0_2.lth
                      refine ⟨Kz.ofGr Gw43, ?_⟩
                      have S127 := (Kp.gr (Kp.gr (Kp.gr (Kp.gr (Kp.refl ([]) w32) Gw33) Gw41) Gw42) Gw43)
                      refine dd_hn 0 rfl rfl rfl rfl S127 (fun w hS => vv_move rfl) ?_
                      refine dd_hn 0 rfl rfl rfl rfl S127 (fun w hS => vv_extract rfl rfl) ?_
                      refine dd_hn 0 rfl rfl rfl rfl S127 (fun w hS => vv_extract rfl rfl) ?_
                      have B128 := (Bx.gr (Bx.gr Bw41 Gw42) Gw43)
                      refine dd_z [(1, b41)] rfl rfl rfl (ev_stM (cs' := THeader.cs x37.1 u43_r0_0 u43_r0_2) (vs := THeader.cs x37.1 u43_r0_0 u43_r0_2) (agg_28).siz rfl rfl rfl rfl (THeader.cs_ones _ _ _ (Own.oneB O43_r0_0) (Own.oneB O43_r0_2)) B128 rfl rfl) ⟨fun _ => tk0, trivial⟩ ?_
                      rintro _ w44 ⟨Bw44, Mw44⟩
                      have z129 := Mw44.size
                      refine ⟨Kz.ofMd Mw44, ?_⟩
                      have S130 := (Kp.md S127 Mw44)
                      refine dd_hn 0 rfl rfl rfl rfl S130 (fun w hS => vv_assign rfl) ?_
                      refine sd_nil ?_
                      have K_131 : Kz [] w9 w44 := (Kz.md (Kz.gr (Kz.gr (Kz.gr (Kz.gr (Kz.gr (Kz.refl _ _) Gw32) Gw33) Gw41) Gw42) Gw43) Mw44)
                      have B132 := (Own.md O43_r0_0 Mw44 (tk1 ((pv_0 (A := (fun x => x ≠ b41)) f43_r0_0) : z43_r0_0 = 0 ∨ g43_r0_0 ≠ b41)))
                      have B133 := (Own.md O43_r0_2 Mw44 (tk1 ((pv_0 (A := (fun x => x ≠ b41)) f43_r0_2) : z43_r0_2 = 0 ∨ g43_r0_2 ≠ b41)))
                      refine ⟨rfl, ⟨x37.2, x37.1, b41, u43_r0_0, z43_r0_0, g43_r0_0, u43_r0_2, z43_r0_2, g43_r0_2⟩, ?_, hm, B132, ⟨(pv_0 (A := (fun x => w9.heap.size ≤ x)) f43_r0_0)⟩, B133, ⟨(pv_0 (A := (fun x => w9.heap.size ≤ x)) f43_r0_2)⟩, Bw44, (by omega), ⟨(tk1 d43_0.o)⟩, ⟨(pv_0 (A := (fun x => x ≠ b41)) f43_r0_0)⟩, ⟨(pv_0 (A := (fun x => x ≠ b41)) f43_r0_2)⟩, K_131⟩
                      repeat' first | exact trivial | refine ⟨rfl, ?_⟩
                  ·
                    refine sdz_fork ?_
                    refine dd_z [] rfl rfl rfl (ev_litT [(TSubset.mk 1 6)] TSubset.cs bsl_48_1 rfl rfl (ws_of rfl) rfl rfl rfl) ⟨fun _ => tk0, trivial⟩ ?_
                    rintro vw45 w45 ⟨gw45, hbw45, Ow45, Gw45⟩
                    have z134 := Gw45.size
                    have lt135 := Ow45.lth
                    refine ⟨Kz.ofGr Gw45, ?_⟩
                    refine sd_fork ?_ ?_
                    ·
                      refine sdz_fork ?_
                      have hb := bnd hm; clear hm; obtain ⟨x38, hx38, hm⟩ := hb
                      refine dd_z [] rfl rfl rfl (ev_call en_58 rfl (law03_of_w 2#8 2 _ hx38 _)) ⟨fun _ => tk0, trivial⟩ ?_
                      rintro _ w46 ⟨rfl, Gw46⟩
                      have z136 := Gw46.size
                      refine ⟨Kz.ofGr Gw46, ?_⟩
                      refine sd_fork ?_ ?_
                      ·
                        refine sdz_leaf ?_
                        have B137 := (Own.gr Ow45 Gw46)
                        have hb := bnd hm; clear hm; obtain ⟨x39, hx39, hm⟩ := hb
                        refine dd_z [] rfl rfl rfl (ev_call en_38 rfl (cover_Seal_w x3 x38 [(TSubset.mk 1 6)] x5 _ _ _ _ _ hx39 _ (Own.rd B137))) ⟨fun _ => tk0, trivial⟩ ?_
                        rintro _ w47 ⟨u47_r0_0, z47_r0_0, g47_r0_0, u47_r0_2, z47_r0_2, g47_r0_2, rfl, O47_r0_0, f47_r0_0, O47_r0_2, f47_r0_2, d47_0, Gw47⟩
                        have z138 := Gw47.size
                        have lt139 := O47_r0_0.lth
                        have lt140 := O47_r0_2.lth
                        refine ⟨Kz.ofGr Gw47, ?_⟩
                        have S141 := (Kp.gr (Kp.gr (Kp.gr (Kp.refl ([]) w32) Gw45) Gw46) Gw47)
                        refine dd_hn 0 rfl rfl rfl rfl S141 (fun w hS => vv_move rfl) ?_
                        refine dd_hn 0 rfl rfl rfl rfl S141 (fun w hS => vv_extract rfl rfl) ?_
                        refine dd_hn 0 rfl rfl rfl rfl S141 (fun w hS => vv_extract rfl rfl) ?_
                        refine dd_z [] rfl rfl rfl (ev_alloc (cs := THeader.cs (THeader.mk [] 0#64 [] k0 k0) (.slice none 0 0) (.slice none 0 0)) zv_28 rfl) ⟨fun _ => tk0, trivial⟩ ?_
                        rintro _ w48 ⟨b48, rfl, hbw48, Bw48, Gw48⟩
                        have z142 := Gw48.size
                        have lt143 := Bw48.lt
                        refine ⟨Kz.ofGr Gw48, ?_⟩
                        have B144 := (Own.gr O47_r0_0 Gw48)
                        have B145 := (Own.gr O47_r0_2 Gw48)
                        refine dd_z [(1, b48)] rfl rfl rfl (ev_stM (cs' := THeader.cs x39.1 u47_r0_0 u47_r0_2) (vs := THeader.cs x39.1 u47_r0_0 u47_r0_2) (agg_28).siz rfl rfl rfl rfl (THeader.cs_ones _ _ _ (Own.oneB B144) (Own.oneB B145)) Bw48 rfl rfl) ⟨fun _ => tk0, trivial⟩ ?_
                        rintro _ w49 ⟨Bw49, Mw49⟩
                        have z146 := Mw49.size
                        refine ⟨Kz.ofMd Mw49, ?_⟩
                        have S147 := (Kp.md (Kp.gr S141 Gw48) Mw49)
                        refine dd_hn 0 rfl rfl rfl rfl S147 (fun w hS => vv_assign rfl) ?_
                        refine sd_nil ?_
                        have K_148 : Kz [] w9 w49 := (Kz.md (Kz.gr (Kz.gr (Kz.gr (Kz.gr (Kz.gr (Kz.refl _ _) Gw32) Gw45) Gw46) Gw47) Gw48) Mw49)
                        have B149 := (Own.md B144 Mw49 (tk1 ((pv_lt (A := (fun x => x ≠ b48)) lt139) : z47_r0_0 = 0 ∨ g47_r0_0 ≠ b48)))
                        have B150 := (Own.md B145 Mw49 (tk1 ((pv_lt (A := (fun x => x ≠ b48)) lt140) : z47_r0_2 = 0 ∨ g47_r0_2 ≠ b48)))
                        refine ⟨rfl, ⟨x39.2, x39.1, b48, u47_r0_0, z47_r0_0, g47_r0_0, u47_r0_2, z47_r0_2, g47_r0_2⟩, ?_, hm, B149, ⟨(pv_0 (A := (fun x => w9.heap.size ≤ x)) f47_r0_0)⟩, B150, ⟨(pv_0 (A := (fun x => w9.heap.size ≤ x)) f47_r0_2)⟩, Bw49, (by omega), ⟨(tk1 d47_0.o)⟩, ⟨(pv_lt (A := (fun x => x ≠ b48)) lt139)⟩, ⟨(pv_lt (A := (fun x => x ≠ b48)) lt140)⟩, K_148⟩
                        repeat' first | exact trivial | refine ⟨rfl, ?_⟩
                      ·
                        refine sdz_leaf ?_
                        refine dd_z [] rfl rfl rfl (ev_alloc (cs := THeader.cs (THeader.mk [] 0#64 [] k0 k0) (.slice none 0 0) (.slice none 0 0)) zv_28 rfl) ⟨fun _ => tk0, trivial⟩ ?_
                        rintro _ w50 ⟨b50, rfl, hbw50, Bw50, Gw50⟩
                        have z151 := Gw50.size
                        have lt152 := Bw50.lt
                        refine ⟨Kz.ofGr Gw50, ?_⟩
                        have B153 := (Own.gr (Own.gr Ow45 Gw46) Gw50)
                        have hb := bnd hm; clear hm; obtain ⟨x40, hx40, hm⟩ := hb
                        refine dd_z [] rfl rfl rfl (ev_call en_38 rfl (cover_Seal_w x3 x38 [(TSubset.mk 1 6)] x5 _ _ _ _ _ hx40 _ (Own.rd B153))) ⟨fun _ => tk0, trivial⟩ ?_
                        rintro _ w51 ⟨u51_r0_0, z51_r0_0, g51_r0_0, u51_r0_2, z51_r0_2, g51_r0_2, rfl, O51_r0_0, f51_r0_0, O51_r0_2, f51_r0_2, d51_0, Gw51⟩
                        have z154 := Gw51.size
                        have lt155 := O51_r0_0.lth
                        have lt156 := O51_r0_2.lth
                        refine ⟨Kz.ofGr Gw51, ?_⟩
                        have S157 := (Kp.gr (Kp.gr (Kp.gr (Kp.gr (Kp.refl ([]) w32) Gw45) Gw46) Gw50) Gw51)
                        refine dd_hn 0 rfl rfl rfl rfl S157 (fun w hS => vv_move rfl) ?_
                        refine dd_hn 0 rfl rfl rfl rfl S157 (fun w hS => vv_extract rfl rfl) ?_
                        refine dd_hn 0 rfl rfl rfl rfl S157 (fun w hS => vv_extract rfl rfl) ?_
                        have B158 := (Bx.gr Bw50 Gw51)
                        refine dd_z [(1, b50)] rfl rfl rfl (ev_stM (cs' := THeader.cs x40.1 u51_r0_0 u51_r0_2) (vs := THeader.cs x40.1 u51_r0_0 u51_r0_2) (agg_28).siz rfl rfl rfl rfl (THeader.cs_ones _ _ _ (Own.oneB O51_r0_0) (Own.oneB O51_r0_2)) B158 rfl rfl) ⟨fun _ => tk0, trivial⟩ ?_
                        rintro _ w52 ⟨Bw52, Mw52⟩
                        have z159 := Mw52.size
                        refine ⟨Kz.ofMd Mw52, ?_⟩
                        have S160 := (Kp.md S157 Mw52)
                        refine dd_hn 0 rfl rfl rfl rfl S160 (fun w hS => vv_assign rfl) ?_
                        refine sd_nil ?_
                        have K_161 : Kz [] w9 w52 := (Kz.md (Kz.gr (Kz.gr (Kz.gr (Kz.gr (Kz.gr (Kz.refl _ _) Gw32) Gw45) Gw46) Gw50) Gw51) Mw52)
                        have B162 := (Own.md O51_r0_0 Mw52 (tk1 ((pv_0 (A := (fun x => x ≠ b50)) f51_r0_0) : z51_r0_0 = 0 ∨ g51_r0_0 ≠ b50)))
                        have B163 := (Own.md O51_r0_2 Mw52 (tk1 ((pv_0 (A := (fun x => x ≠ b50)) f51_r0_2) : z51_r0_2 = 0 ∨ g51_r0_2 ≠ b50)))
                        refine ⟨rfl, ⟨x40.2, x40.1, b50, u51_r0_0, z51_r0_0, g51_r0_0, u51_r0_2, z51_r0_2, g51_r0_2⟩, ?_, hm, B162, ⟨(pv_0 (A := (fun x => w9.heap.size ≤ x)) f51_r0_0)⟩, B163, ⟨(pv_0 (A := (fun x => w9.heap.size ≤ x)) f51_r0_2)⟩, Bw52, (by omega), ⟨(tk1 d51_0.o)⟩, ⟨(pv_0 (A := (fun x => x ≠ b50)) f51_r0_0)⟩, ⟨(pv_0 (A := (fun x => x ≠ b50)) f51_r0_2)⟩, K_161⟩
                        repeat' first | exact trivial | refine ⟨rfl, ?_⟩
                    ·
                      refine sdz_leaf ?_
                      refine dd_z [] rfl rfl rfl (ev_alloc (cs := THeader.cs (THeader.mk [] 0#64 [] k0 k0) (.slice none 0 0) (.slice none 0 0)) zv_28 rfl) ⟨fun _ => tk0, trivial⟩ ?_
                      rintro _ w53 ⟨b53, rfl, hbw53, Bw53, Gw53⟩
                      have z164 := Gw53.size
                      have lt165 := Bw53.lt
                      refine ⟨Kz.ofGr Gw53, ?_⟩
                      have hb := bnd hm; clear hm; obtain ⟨x41, hx41, hm⟩ := hb
                      refine dd_z [] rfl rfl rfl (ev_call en_58 rfl (law03_of_w 2#8 2 _ hx41 _)) ⟨fun _ => tk0, trivial⟩ ?_
                      rintro _ w54 ⟨rfl, Gw54⟩
                      have z166 := Gw54.size
                      refine ⟨Kz.ofGr Gw54, ?_⟩
                      have B167 := (Own.gr (Own.gr Ow45 Gw53) Gw54)
                      have hb := bnd hm; clear hm; obtain ⟨x42, hx42, hm⟩ := hb
                      refine dd_z [] rfl rfl rfl (ev_call en_38 rfl (cover_Seal_w x3 x41 [(TSubset.mk 1 6)] x5 _ _ _ _ _ hx42 _ (Own.rd B167))) ⟨fun _ => tk0, trivial⟩ ?_
                      rintro _ w55 ⟨u55_r0_0, z55_r0_0, g55_r0_0, u55_r0_2, z55_r0_2, g55_r0_2, rfl, O55_r0_0, f55_r0_0, O55_r0_2, f55_r0_2, d55_0, Gw55⟩
                      have z168 := Gw55.size
                      have lt169 := O55_r0_0.lth
                      have lt170 := O55_r0_2.lth
                      refine ⟨Kz.ofGr Gw55, ?_⟩
                      have S171 := (Kp.gr (Kp.gr (Kp.gr (Kp.gr (Kp.refl ([]) w32) Gw45) Gw53) Gw54) Gw55)
                      refine dd_hn 0 rfl rfl rfl rfl S171 (fun w hS => vv_move rfl) ?_
                      refine dd_hn 0 rfl rfl rfl rfl S171 (fun w hS => vv_extract rfl rfl) ?_
                      refine dd_hn 0 rfl rfl rfl rfl S171 (fun w hS => vv_extract rfl rfl) ?_
                      have B172 := (Bx.gr (Bx.gr Bw53 Gw54) Gw55)
                      refine dd_z [(1, b53)] rfl rfl rfl (ev_stM (cs' := THeader.cs x42.1 u55_r0_0 u55_r0_2) (vs := THeader.cs x42.1 u55_r0_0 u55_r0_2) (agg_28).siz rfl rfl rfl rfl (THeader.cs_ones _ _ _ (Own.oneB O55_r0_0) (Own.oneB O55_r0_2)) B172 rfl rfl) ⟨fun _ => tk0, trivial⟩ ?_
                      rintro _ w56 ⟨Bw56, Mw56⟩
                      have z173 := Mw56.size
                      refine ⟨Kz.ofMd Mw56, ?_⟩
                      have S174 := (Kp.md S171 Mw56)
                      refine dd_hn 0 rfl rfl rfl rfl S174 (fun w hS => vv_assign rfl) ?_
                      refine sd_nil ?_
                      have K_175 : Kz [] w9 w56 := (Kz.md (Kz.gr (Kz.gr (Kz.gr (Kz.gr (Kz.gr (Kz.refl _ _) Gw32) Gw45) Gw53) Gw54) Gw55) Mw56)
                      have B176 := (Own.md O55_r0_0 Mw56 (tk1 ((pv_0 (A := (fun x => x ≠ b53)) f55_r0_0) : z55_r0_0 = 0 ∨ g55_r0_0 ≠ b53)))
                      have B177 := (Own.md O55_r0_2 Mw56 (tk1 ((pv_0 (A := (fun x => x ≠ b53)) f55_r0_2) : z55_r0_2 = 0 ∨ g55_r0_2 ≠ b53)))
                      refine ⟨rfl, ⟨x42.2, x42.1, b53, u55_r0_0, z55_r0_0, g55_r0_0, u55_r0_2, z55_r0_2, g55_r0_2⟩, ?_, hm, B176, ⟨(pv_0 (A := (fun x => w9.heap.size ≤ x)) f55_r0_0)⟩, B177, ⟨(pv_0 (A := (fun x => w9.heap.size ≤ x)) f55_r0_2)⟩, Bw56, (by omega), ⟨(tk1 d55_0.o)⟩, ⟨(pv_0 (A := (fun x => x ≠ b53)) f55_r0_0)⟩, ⟨(pv_0 (A := (fun x => x ≠ b53)) f55_r0_2)⟩, K_175⟩
                      repeat' first | exact trivial | refine ⟨rfl, ?_⟩
                  ·
                    refine sdz_fork ?_
                    refine dd_z [] rfl rfl rfl (ev_alloc (cs := THeader.cs (THeader.mk [] 0#64 [] k0 k0) (.slice none 0 0) (.slice none 0 0)) zv_28 rfl) ⟨fun _ => tk0, trivial⟩ ?_
                    rintro _ w57 ⟨b57, rfl, hbw57, Bw57, Gw57⟩
                    have z178 := Gw57.size
                    have lt179 := Bw57.lt
                    refine ⟨Kz.ofGr Gw57, ?_⟩
                    refine sd_fork ?_ ?_
                    ·
                      refine sdz_leaf ?_
                      have hb := bnd hm; clear hm; obtain ⟨x43, hx43, hm⟩ := hb
                      refine dd_z [] rfl rfl rfl (ev_call en_58 rfl (law03_of_w 2#8 2 _ hx43 _)) ⟨fun _ => tk0, trivial⟩ ?_
                      rintro _ w58 ⟨rfl, Gw58⟩
                      have z180 := Gw58.size
                      refine ⟨Kz.ofGr Gw58, ?_⟩
                      refine dd_z [] rfl rfl rfl (ev_litT [(TSubset.mk 1 6)] TSubset.cs bsl_48_1 rfl rfl (ws_of rfl) rfl rfl rfl) ⟨fun _ => tk0, trivial⟩ ?_
                      rintro vw59 w59 ⟨gw59, hbw59, Ow59, Gw59⟩
                      have z181 := Gw59.size
                      have lt182 := Ow59.lth
                      refine ⟨Kz.ofGr Gw59, ?_⟩
                      have hb := bnd hm; clear hm; obtain ⟨x44, hx44, hm⟩ := hb
                      refine dd_z [] rfl rfl rfl (ev_call en_38 rfl (cover_Seal_w x3 x43 [(TSubset.mk 1 6)] x5 _ _ _ _ _ hx44 _ (Own.rd Ow59))) ⟨fun _ => tk0, trivial⟩ ?_
                      rintro _ w60 ⟨u60_r0_0, z60_r0_0, g60_r0_0, u60_r0_2, z60_r0_2, g60_r0_2, rfl, O60_r0_0, f60_r0_0, O60_r0_2, f60_r0_2, d60_0, Gw60⟩
                      have z183 := Gw60.size
                      have lt184 := O60_r0_0.lth
                      have lt185 := O60_r0_2.lth
                      refine ⟨Kz.ofGr Gw60, ?_⟩
                      have S186 := (Kp.gr (Kp.gr (Kp.gr (Kp.gr (Kp.refl ([]) w32) Gw57) Gw58) Gw59) Gw60)
                      refine dd_hn 0 rfl rfl rfl rfl S186 (fun w hS => vv_move rfl) ?_
                      refine dd_hn 0 rfl rfl rfl rfl S186 (fun w hS => vv_extract rfl rfl) ?_
                      refine dd_hn 0 rfl rfl rfl rfl S186 (fun w hS => vv_extract rfl rfl) ?_
                      have B187 := (Bx.gr (Bx.gr (Bx.gr Bw57 Gw58) Gw59) Gw60)
                      refine dd_z [(1, b57)] rfl rfl rfl (ev_stM (cs' := THeader.cs x44.1 u60_r0_0 u60_r0_2) (vs := THeader.cs x44.1 u60_r0_0 u60_r0_2) (agg_28).siz rfl rfl rfl rfl (THeader.cs_ones _ _ _ (Own.oneB O60_r0_0) (Own.oneB O60_r0_2)) B187 rfl rfl) ⟨fun _ => tk0, trivial⟩ ?_
                      rintro _ w61 ⟨Bw61, Mw61⟩
                      have z188 := Mw61.size
                      refine ⟨Kz.ofMd Mw61, ?_⟩
                      have S189 := (Kp.md S186 Mw61)
                      refine dd_hn 0 rfl rfl rfl rfl S189 (fun w hS => vv_assign rfl) ?_
                      refine sd_nil ?_
                      have K_190 : Kz [] w9 w61 := (Kz.md (Kz.gr (Kz.gr (Kz.gr (Kz.gr (Kz.gr (Kz.refl _ _) Gw32) Gw57) Gw58) Gw59) Gw60) Mw61)
                      have B191 := (Own.md O60_r0_0 Mw61 (tk1 ((pv_0 (A := (fun x => x ≠ b57)) f60_r0_0) : z60_r0_0 = 0 ∨ g60_r0_0 ≠ b57)))
                      have B192 := (Own.md O60_r0_2 Mw61 (tk1 ((pv_0 (A := (fun x => x ≠ b57)) f60_r0_2) : z60_r0_2 = 0 ∨ g60_r0_2 ≠ b57)))
                      refine ⟨rfl, ⟨x44.2, x44.1, b57, u60_r0_0, z60_r0_0, g60_r0_0, u60_r0_2, z60_r0_2, g60_r0_2⟩, ?_, hm, B191, ⟨(pv_0 (A := (fun x => w9.heap.size ≤ x)) f60_r0_0)⟩, B192, ⟨(pv_0 (A := (fun x => w9.heap.size ≤ x)) f60_r0_2)⟩, Bw61, (by omega), ⟨(tk1 d60_0.o)⟩, ⟨(pv_0 (A := (fun x => x ≠ b57)) f60_r0_0)⟩, ⟨(pv_0 (A := (fun x => x ≠ b57)) f60_r0_2)⟩, K_190⟩
                      repeat' first | exact trivial | refine ⟨rfl, ?_⟩
                    ·
                      refine sdz_leaf ?_
                      refine dd_z [] rfl rfl rfl (ev_litT [(TSubset.mk 1 6)] TSubset.cs bsl_48_1 rfl rfl (ws_of rfl) rfl rfl rfl) ⟨fun _ => tk0, trivial⟩ ?_
                      rintro vw62 w62 ⟨gw62, hbw62, Ow62, Gw62⟩
                      have z193 := Gw62.size
                      have lt194 := Ow62.lth
                      refine ⟨Kz.ofGr Gw62, ?_⟩
                      have hb := bnd hm; clear hm; obtain ⟨x45, hx45, hm⟩ := hb
                      refine dd_z [] rfl rfl rfl (ev_call en_58 rfl (law03_of_w 2#8 2 _ hx45 _)) ⟨fun _ => tk0, trivial⟩ ?_
                      rintro _ w63 ⟨rfl, Gw63⟩
                      have z195 := Gw63.size
                      refine ⟨Kz.ofGr Gw63, ?_⟩
                      have B196 := (Own.gr Ow62 Gw63)
                      have hb := bnd hm; clear hm; obtain ⟨x46, hx46, hm⟩ := hb
                      refine dd_z [] rfl rfl rfl (ev_call en_38 rfl (cover_Seal_w x3 x45 [(TSubset.mk 1 6)] x5 _ _ _ _ _ hx46 _ (Own.rd B196))) ⟨fun _ => tk0, trivial⟩ ?_
                      rintro _ w64 ⟨u64_r0_0, z64_r0_0, g64_r0_0, u64_r0_2, z64_r0_2, g64_r0_2, rfl, O64_r0_0, f64_r0_0, O64_r0_2, f64_r0_2, d64_0, Gw64⟩
                      have z197 := Gw64.size
                      have lt198 := O64_r0_0.lth
                      have lt199 := O64_r0_2.lth
                      refine ⟨Kz.ofGr Gw64, ?_⟩
                      have S200 := (Kp.gr (Kp.gr (Kp.gr (Kp.gr (Kp.refl ([]) w32) Gw57) Gw62) Gw63) Gw64)
                      refine dd_hn 0 rfl rfl rfl rfl S200 (fun w hS => vv_move rfl) ?_
                      refine dd_hn 0 rfl rfl rfl rfl S200 (fun w hS => vv_extract rfl rfl) ?_
                      refine dd_hn 0 rfl rfl rfl rfl S200 (fun w hS => vv_extract rfl rfl) ?_
                      have B201 := (Bx.gr (Bx.gr (Bx.gr Bw57 Gw62) Gw63) Gw64)
                      refine dd_z [(1, b57)] rfl rfl rfl (ev_stM (cs' := THeader.cs x46.1 u64_r0_0 u64_r0_2) (vs := THeader.cs x46.1 u64_r0_0 u64_r0_2) (agg_28).siz rfl rfl rfl rfl (THeader.cs_ones _ _ _ (Own.oneB O64_r0_0) (Own.oneB O64_r0_2)) B201 rfl rfl) ⟨fun _ => tk0, trivial⟩ ?_
                      rintro _ w65 ⟨Bw65, Mw65⟩
                      have z202 := Mw65.size
                      refine ⟨Kz.ofMd Mw65, ?_⟩
                      have S203 := (Kp.md S200 Mw65)
                      refine dd_hn 0 rfl rfl rfl rfl S203 (fun w hS => vv_assign rfl) ?_
                      refine sd_nil ?_
                      have K_204 : Kz [] w9 w65 := (Kz.md (Kz.gr (Kz.gr (Kz.gr (Kz.gr (Kz.gr (Kz.refl _ _) Gw32) Gw57) Gw62) Gw63) Gw64) Mw65)
                      have B205 := (Own.md O64_r0_0 Mw65 (tk1 ((pv_0 (A := (fun x => x ≠ b57)) f64_r0_0) : z64_r0_0 = 0 ∨ g64_r0_0 ≠ b57)))
                      have B206 := (Own.md O64_r0_2 Mw65 (tk1 ((pv_0 (A := (fun x => x ≠ b57)) f64_r0_2) : z64_r0_2 = 0 ∨ g64_r0_2 ≠ b57)))
                      refine ⟨rfl, ⟨x46.2, x46.1, b57, u64_r0_0, z64_r0_0, g64_r0_0, u64_r0_2, z64_r0_2, g64_r0_2⟩, ?_, hm, B205, ⟨(pv_0 (A := (fun x => w9.heap.size ≤ x)) f64_r0_0)⟩, B206, ⟨(pv_0 (A := (fun x => w9.heap.size ≤ x)) f64_r0_2)⟩, Bw65, (by omega), ⟨(tk1 d64_0.o)⟩, ⟨(pv_0 (A := (fun x => x ≠ b57)) f64_r0_0)⟩, ⟨(pv_0 (A := (fun x => x ≠ b57)) f64_r0_2)⟩, K_204⟩
                      repeat' first | exact trivial | refine ⟨rfl, ?_⟩
            ·
              -- region 8 outright.go:42
              refine sw_region [(0, 0), (1, 0), (2, 0), (3, 0), (4, 0), (5, 0), (6, 0), (7, 0), (8, 0), (9, 0), (10, 0), (11, 0), (12, 0), (13, 0), (14, 0), (15, 0), (16, 0), (17, 0), (18, 0), (19, 0), (20, 0), (21, 0), (22, 0), (23, 0), (24, 0), (25, 0), (26, 0), (27, 0), (28, 0), (29, 0), (30, 0), (31, 0), (32, 0), (33, 0), (34, 0), (35, 0), (36, 0)] rfl rfl rfl ?_
              refine sd_vv rfl rfl rfl (vv_move rfl) ?_
              refine sd_vv rfl rfl rfl (vv_neq (a := a9) (b := 0) rfl rfl) ?_
              refine sd_split rfl rfl rfl (vv_move rfl) (fun c10 => ?_) (fun c10 => ?_)
              ·
                replace hm := ite_t (of_decide_eq_true c10) hm
                refine sd_skip rfl rfl rfl ?_
                refine sd_skip rfl rfl rfl ?_
                refine sd_skip rfl rfl rfl ?_
                refine sd_skip rfl rfl rfl ?_
                refine sd_vv rfl rfl rfl (vv_pickT rfl rfl) ?_
                refine sd_vv rfl rfl rfl (vv_move rfl) ?_
                refine sd_skip rfl rfl rfl ?_
                refine sd_skip rfl rfl rfl ?_
                refine sd_skip rfl rfl rfl ?_
                refine sd_skip rfl rfl rfl ?_
                refine sd_skip rfl rfl rfl ?_
                refine sd_skip rfl rfl rfl ?_
                refine sd_vv rfl rfl rfl (vv_pickT rfl rfl) ?_
                refine sd_vv rfl rfl rfl (vv_move rfl) ?_
                refine sd_skip rfl rfl rfl ?_
                refine sd_skip rfl rfl rfl ?_
                refine sd_skip rfl rfl rfl ?_
                refine sd_skip rfl rfl rfl ?_
                refine sd_skip rfl rfl rfl ?_
                refine sd_skip rfl rfl rfl ?_
                refine sd_vv rfl rfl rfl (vv_pickT rfl rfl) ?_
                refine sd_vv rfl rfl rfl (vv_move rfl) ?_
                refine sd_skip rfl rfl rfl ?_
                refine sd_skip rfl rfl rfl ?_
                refine sd_vv rfl rfl rfl (vv_pickT rfl rfl) ?_
                refine sd_vv rfl rfl rfl (vv_move rfl) ?_
                refine sd_skip rfl rfl rfl ?_
                refine sd_skip rfl rfl rfl ?_
                refine sd_vv rfl rfl rfl (vv_pickT rfl rfl) ?_
                refine sd_vv rfl rfl rfl (vv_move rfl) ?_
                refine sd_skip rfl rfl rfl ?_
                refine sd_skip rfl rfl rfl ?_
                refine sd_skip rfl rfl rfl ?_
                refine sd_vv rfl rfl rfl (vv_pickT rfl rfl) ?_
                refine sd_nil ?_
                have K_207 : Kz [] w8 w8 := (Kz.refl _ _)
                refine ⟨rfl, true, ?_, hm, K_207⟩
                repeat' first | exact trivial | refine ⟨rfl, ?_⟩
              ·
                replace hm := ite_f (of_decide_eq_false c10) hm
                refine sd_vv rfl rfl rfl (vv_fieldAddr fa_74_1 rfl) ?_
                have B208 := (Bx.kz (Bx.kz Fw6_2 Kw7) Kw8)
                refine sd_vv rfl rfl rfl (vv_load1 (v := vy8) one_70 rfl B208 rfl) ?_
                have B209 := (Own.kz (Own.kz Fw6_0 Kw7) Kw8)
                refine sd_vv rfl rfl rfl (vv_lenT (l := a7.Labels) (c := TLabel.cs) Try.underlying70 rfl (Own.rd B209)) ?_
                refine sd_vv rfl rfl rfl (vv_neq (a := (a7.Labels.length : Int)) (b := 4) rfl rfl) ?_
                refine sd_vv rfl rfl rfl (vv_pickF rfl rfl) ?_
                refine sd_split rfl rfl rfl (vv_move rfl) (fun c11 => ?_) (fun c11 => ?_)
                ·
                  replace hm := ite_t (of_decide_eq_true c11) hm
                  refine sd_skip rfl rfl rfl ?_
                  refine sd_skip rfl rfl rfl ?_
                  refine sd_skip rfl rfl rfl ?_
                  refine sd_skip rfl rfl rfl ?_
                  refine sd_skip rfl rfl rfl ?_
                  refine sd_skip rfl rfl rfl ?_
                  refine sd_vv rfl rfl rfl (vv_pickT rfl rfl) ?_
                  refine sd_vv rfl rfl rfl (vv_move rfl) ?_
                  refine sd_skip rfl rfl rfl ?_
                  refine sd_skip rfl rfl rfl ?_
                  refine sd_skip rfl rfl rfl ?_
                  refine sd_skip rfl rfl rfl ?_
                  refine sd_skip rfl rfl rfl ?_
                  refine sd_skip rfl rfl rfl ?_
                  refine sd_vv rfl rfl rfl (vv_pickT rfl rfl) ?_
                  refine sd_vv rfl rfl rfl (vv_move rfl) ?_
                  refine sd_skip rfl rfl rfl ?_
                  refine sd_skip rfl rfl rfl ?_
                  refine sd_vv rfl rfl rfl (vv_pickT rfl rfl) ?_
                  refine sd_vv rfl rfl rfl (vv_move rfl) ?_
                  refine sd_skip rfl rfl rfl ?_
                  refine sd_skip rfl rfl rfl ?_
                  refine sd_vv rfl rfl rfl (vv_pickT rfl rfl) ?_
                  refine sd_vv rfl rfl rfl (vv_move rfl) ?_
                  refine sd_skip rfl rfl rfl ?_
                  refine sd_skip rfl rfl rfl ?_
                  refine sd_skip rfl rfl rfl ?_
                  refine sd_vv rfl rfl rfl (vv_pickT rfl rfl) ?_
                  refine sd_nil ?_
                  have K_210 : Kz [] w8 w8 := (Kz.refl _ _)
                  refine ⟨rfl, true, ?_, hm, K_210⟩
                  repeat' first | exact trivial | refine ⟨rfl, ?_⟩
                ·
                  replace hm := ite_f (of_decide_eq_false c11) hm
                  refine sd_vv rfl rfl rfl (vv_fieldAddr fa_74_1 rfl) ?_
                  refine sd_vv rfl rfl rfl (vv_load1 (v := vy8) one_70 rfl B208 rfl) ?_
                  have hb := bnd hm; clear hm; obtain ⟨y47, hy47, hm⟩ := hb
                  refine sd_vv rfl rfl rfl (vv_ixT (i := 3) Try.underlying70 (agg_81).siz rfl (Own.rd B209) rfl hy47) ?_
                  refine sd_vv rfl rfl rfl (vv_fieldAddr fa_81_0 rfl) ?_
                  refine sd_vv rfl rfl rfl (vv_el1T (q := 0) (u := .int .i64 y47.Node) one_3 rfl (Own.rd B209) hy47 (by first | rfl | omega) rfl) ?_
                  refine sd_vv rfl rfl rfl (vv_neq (a := y47.Node) (b := 2) rfl rfl) ?_
                  refine sd_vv rfl rfl rfl (vv_pickF rfl rfl) ?_
                  refine sd_split rfl rfl rfl (vv_move rfl) (fun c12 => ?_) (fun c12 => ?_)
                  ·
                    replace hm := ite_t (of_decide_eq_true c12) hm
                    refine sd_skip rfl rfl rfl ?_
                    refine sd_skip rfl rfl rfl ?_
                    refine sd_skip rfl rfl rfl ?_
                    refine sd_skip rfl rfl rfl ?_
                    refine sd_skip rfl rfl rfl ?_
                    refine sd_skip rfl rfl rfl ?_
                    refine sd_vv rfl rfl rfl (vv_pickT rfl rfl) ?_
                    refine sd_vv rfl rfl rfl (vv_move rfl) ?_
                    refine sd_skip rfl rfl rfl ?_
                    refine sd_skip rfl rfl rfl ?_
                    refine sd_vv rfl rfl rfl (vv_pickT rfl rfl) ?_
                    refine sd_vv rfl rfl rfl (vv_move rfl) ?_
                    refine sd_skip rfl rfl rfl ?_
                    refine sd_skip rfl rfl rfl ?_
                    refine sd_vv rfl rfl rfl (vv_pickT rfl rfl) ?_
                    refine sd_vv rfl rfl rfl (vv_move rfl) ?_
                    refine sd_skip rfl rfl rfl ?_
                    refine sd_skip rfl rfl rfl ?_
                    refine sd_skip rfl rfl rfl ?_
                    refine sd_vv rfl rfl rfl (vv_pickT rfl rfl) ?_
                    refine sd_nil ?_
                    have K_211 : Kz [] w8 w8 := (Kz.refl _ _)
                    refine ⟨rfl, true, ?_, hm, K_211⟩
                    repeat' first | exact trivial | refine ⟨rfl, ?_⟩
                  ·
                    replace hm := ite_f (of_decide_eq_false c12) hm
                    refine sd_vv rfl rfl rfl (vv_fieldAddr fa_74_1 rfl) ?_
                    refine sd_vv rfl rfl rfl (vv_load1 (v := vy8) one_70 rfl B208 rfl) ?_
                    have hb := bnd hm; clear hm; obtain ⟨y48, hy48, hm⟩ := hb
                    refine sd_vv rfl rfl rfl (vv_ixT (i := 3) Try.underlying70 (agg_81).siz rfl (Own.rd B209) rfl hy48) ?_
                    refine sd_vv rfl rfl rfl (vv_fieldAddr fa_81_1 rfl) ?_
                    refine sd_vv rfl rfl rfl (vv_el1T (q := 1) (u := .int .i64 y48.Minus) one_3 rfl (Own.rd B209) hy48 (by first | rfl | omega) rfl) ?_
                    refine sd_vv rfl rfl rfl (vv_neq (a := y48.Minus) (b := 5) rfl rfl) ?_
                    refine sd_vv rfl rfl rfl (vv_pickF rfl rfl) ?_
                    refine sd_split rfl rfl rfl (vv_move rfl) (fun c13 => ?_) (fun c13 => ?_)
                    ·
                      replace hm := ite_t (of_decide_eq_true c13) hm
                      refine sd_skip rfl rfl rfl ?_
                      refine sd_skip rfl rfl rfl ?_
                      refine sd_vv rfl rfl rfl (vv_pickT rfl rfl) ?_
                      refine sd_vv rfl rfl rfl (vv_move rfl) ?_
                      refine sd_skip rfl rfl rfl ?_
                      refine sd_skip rfl rfl rfl ?_
                      refine sd_vv rfl rfl rfl (vv_pickT rfl rfl) ?_
                      refine sd_vv rfl rfl rfl (vv_move rfl) ?_
                      refine sd_skip rfl rfl rfl ?_
                      refine sd_skip rfl rfl rfl ?_
                      refine sd_skip rfl rfl rfl ?_
                      refine sd_vv rfl rfl rfl (vv_pickT rfl rfl) ?_
                      refine sd_nil ?_
                      have K_212 : Kz [] w8 w8 := (Kz.refl _ _)
                      refine ⟨rfl, true, ?_, hm, K_212⟩
                      repeat' first | exact trivial | refine ⟨rfl, ?_⟩
                    ·
                      replace hm := ite_f (of_decide_eq_false c13) hm
                      refine sd_vv rfl rfl rfl (vv_move rfl) ?_
                      refine sd_vv rfl rfl rfl (vv_neq (a := a12) (b := 0) rfl rfl) ?_
                      refine sd_vv rfl rfl rfl (vv_pickF rfl rfl) ?_
                      refine sd_split rfl rfl rfl (vv_move rfl) (fun c14 => ?_) (fun c14 => ?_)
                      ·
                        replace hm := ite_t (of_decide_eq_true c14) hm
                        refine sd_skip rfl rfl rfl ?_
                        refine sd_skip rfl rfl rfl ?_
                        refine sd_vv rfl rfl rfl (vv_pickT rfl rfl) ?_
                        refine sd_vv rfl rfl rfl (vv_move rfl) ?_
                        refine sd_skip rfl rfl rfl ?_
                        refine sd_skip rfl rfl rfl ?_
                        refine sd_skip rfl rfl rfl ?_
                        refine sd_vv rfl rfl rfl (vv_pickT rfl rfl) ?_
                        refine sd_nil ?_
                        have K_213 : Kz [] w8 w8 := (Kz.refl _ _)
                        refine ⟨rfl, true, ?_, hm, K_213⟩
                        repeat' first | exact trivial | refine ⟨rfl, ?_⟩
                      ·
                        replace hm := ite_f (of_decide_eq_false c14) hm
                        refine sd_vv rfl rfl rfl (vv_move rfl) ?_
                        refine sd_vv rfl rfl rfl (vv_neq (a := a15) (b := 0) rfl rfl) ?_
                        refine sd_vv rfl rfl rfl (vv_pickF rfl rfl) ?_
                        refine sd_split rfl rfl rfl (vv_move rfl) (fun c15 => ?_) (fun c15 => ?_)
                        ·
                          replace hm := ite_t (of_decide_eq_true c15) hm
                          refine sd_skip rfl rfl rfl ?_
                          refine sd_skip rfl rfl rfl ?_
                          refine sd_skip rfl rfl rfl ?_
                          refine sd_vv rfl rfl rfl (vv_pickT rfl rfl) ?_
                          refine sd_nil ?_
                          have K_214 : Kz [] w8 w8 := (Kz.refl _ _)
                          refine ⟨rfl, true, ?_, hm, K_214⟩
                          repeat' first | exact trivial | refine ⟨rfl, ?_⟩
                        ·
                          replace hm := ite_f (of_decide_eq_false c15) hm
                          have B215 := (Bx.kz Fw7_0 Kw8)
                          refine sd_vv rfl rfl rfl (vv_loadW agg_26 rfl B215 rfl) ?_
                          refine sd_vv rfl rfl rfl (vv_loadW agg_26 rfl Fw8_0 rfl) ?_
                          refine sd_vv rfl rfl rfl (vv_neqS (cf := kb) (a := a11) (b := a14) eqt_26 rfl rfl rfl rfl (fun h => kb_inj h)) ?_
                          refine sd_vv rfl rfl rfl (vv_pickF rfl rfl) ?_
                          refine sd_nil ?_
                          have K_216 : Kz [] w8 w8 := (Kz.refl _ _)
                          refine ⟨rfl, (decide (a11 ≠ a14)), ?_, hm, K_216⟩
                          repeat' first | exact trivial | refine ⟨rfl, ?_⟩
          ·
            -- region 7 outright.go:41 DRAWS
            refine sw_drawN [([])] [] (.fork [(1, 10), (2, 10)] (.fork [(0, 0)] (.leaf [(3, 0), (4, 10), (5, 10), (6, 10), (7, 0), (8, 0), (9, 10)]) (.leaf [(7, 0), (3, 0), (4, 10), (5, 10), (6, 10), (8, 0), (9, 10)])) (.leaf [(7, 0), (0, 0), (3, 0), (4, 10), (5, 10), (6, 10), (8, 0), (9, 10)])) (by kernel_rfl) (by kernel_rfl) rfl (by kernel_rfl) ?_
            intro w66 Gw66 zw66
            refine sdz_fork ?_
            have B217 := (Bx.gr (Bx.kz Fw6_2 Kw7) Gw66)
            refine dd_hn 0 rfl rfl rfl rfl (Kp.refl ([]) w66) (fun w hS => vv_loadW agg_74 rfl (Bx.kp B217 hS) rfl) ?_
            refine dd_hn 0 rfl rfl rfl rfl (Kp.refl ([]) w66) (fun w hS => vv_build (cs := TSubset.cs (TSubset.mk 1 6)) bs_47 rfl rfl) ?_
            refine sd_fork ?_ ?_
            ·
              refine sdz_fork ?_
              have hb := bnd hm; clear hm; obtain ⟨x49, hx49, hm⟩ := hb
              refine dd_z [] rfl rfl rfl (ev_call en_58 rfl (law03_of_w 2#8 2 _ hx49 _)) ⟨fun _ => tk0, trivial⟩ ?_
              rintro _ w67 ⟨rfl, Gw67⟩
              have z218 := Gw67.size
              refine ⟨Kz.ofGr Gw67, ?_⟩
              refine sd_fork ?_ ?_
              ·
                refine sdz_leaf ?_
                have B219 := (Own.gr (Own.gr (Own.kz Fw6_0 Kw7) Gw66) Gw67)
                have hb := bnd hm; clear hm; obtain ⟨x50, hx50, hm⟩ := hb
                refine dd_z [] rfl rfl rfl (ev_call en_48 rfl (cover_Find_w x49 a7 (TSubset.mk 1 6) _ _ _ _ _ hx50 _ (Own.rd B219))) ⟨fun _ => tk0, trivial⟩ ?_
                rintro _ w68 ⟨rfl, Gw68⟩
                have z220 := Gw68.size
                refine ⟨Kz.ofGr Gw68, ?_⟩
                have S221 := (Kp.gr (Kp.gr (Kp.refl ([]) w66) Gw67) Gw68)
                refine dd_hn 0 rfl rfl rfl rfl S221 (fun w hS => vv_move rfl) ?_
                refine dd_hn 0 rfl rfl rfl rfl S221 (fun w hS => vv_extract rfl rfl) ?_
                refine dd_hn 0 rfl rfl rfl rfl S221 (fun w hS => vv_extract rfl rfl) ?_
                refine dd_z [] rfl rfl rfl (ev_alloc (cs := kb k0) zv_26 rfl) ⟨fun _ => tk0, trivial⟩ ?_
                rintro _ w69 ⟨b69, rfl, hbw69, Bw69, Gw69⟩
                have z222 := Gw69.size
                have lt223 := Bw69.lt
                refine ⟨Kz.ofGr Gw69, ?_⟩
                refine dd_z [(1, b69)] rfl rfl rfl (ev_stM (cs' := kb x50.1) (vs := kb x50.1) (agg_26).siz rfl rfl rfl rfl rfl Bw69 rfl rfl) ⟨fun _ => tk0, trivial⟩ ?_
                rintro _ w70 ⟨Bw70, Mw70⟩
                have z224 := Mw70.size
                refine ⟨Kz.ofMd Mw70, ?_⟩
                have S225 := (Kp.md (Kp.gr S221 Gw69) Mw70)
                refine dd_hn 0 rfl rfl rfl rfl S225 (fun w hS => vv_assign rfl) ?_
                refine sd_nil ?_
                have K_226 : Kz [] w7 w70 := (Kz.md (Kz.gr (Kz.gr (Kz.gr (Kz.gr (Kz.refl _ _) Gw66) Gw67) Gw68) Gw69) Mw70)
                refine ⟨rfl, ⟨x50.1, x50.2, b69⟩, ?_, hm, Bw70, (by omega), K_226⟩
                repeat' first | exact trivial | refine ⟨rfl, ?_⟩
              ·
                refine sdz_leaf ?_
                refine dd_z [] rfl rfl rfl (ev_alloc (cs := kb k0) zv_26 rfl) ⟨fun _ => tk0, trivial⟩ ?_
                rintro _ w71 ⟨b71, rfl, hbw71, Bw71, Gw71⟩
                have z227 := Gw71.size
                have lt228 := Bw71.lt
                refine ⟨Kz.ofGr Gw71, ?_⟩
                have B229 := (Own.gr (Own.gr (Own.gr (Own.kz Fw6_0 Kw7) Gw66) Gw67) Gw71)
                have hb := bnd hm; clear hm; obtain ⟨x51, hx51, hm⟩ := hb
                refine dd_z [] rfl rfl rfl (ev_call en_48 rfl (cover_Find_w x49 a7 (TSubset.mk 1 6) _ _ _ _ _ hx51 _ (Own.rd B229))) ⟨fun _ => tk0, trivial⟩ ?_
                rintro _ w72 ⟨rfl, Gw72⟩
                have z230 := Gw72.size
                refine ⟨Kz.ofGr Gw72, ?_⟩
                have S231 := (Kp.gr (Kp.gr (Kp.gr (Kp.refl ([]) w66) Gw67) Gw71) Gw72)
                refine dd_hn 0 rfl rfl rfl rfl S231 (fun w hS => vv_move rfl) ?_
                refine dd_hn 0 rfl rfl rfl rfl S231 (fun w hS => vv_extract rfl rfl) ?_
                refine dd_hn 0 rfl rfl rfl rfl S231 (fun w hS => vv_extract rfl rfl) ?_
                have B232 := (Bx.gr Bw71 Gw72)
                refine dd_z [(1, b71)] rfl rfl rfl (ev_stM (cs' := kb x51.1) (vs := kb x51.1) (agg_26).siz rfl rfl rfl rfl rfl B232 rfl rfl) ⟨fun _ => tk0, trivial⟩ ?_
                rintro _ w73 ⟨Bw73, Mw73⟩
                have z233 := Mw73.size
                refine ⟨Kz.ofMd Mw73, ?_⟩
                have S234 := (Kp.md S231 Mw73)
                refine dd_hn 0 rfl rfl rfl rfl S234 (fun w hS => vv_assign rfl) ?_
                refine sd_nil ?_
                have K_235 : Kz [] w7 w73 := (Kz.md (Kz.gr (Kz.gr (Kz.gr (Kz.gr (Kz.refl _ _) Gw66) Gw67) Gw71) Gw72) Mw73)
                refine ⟨rfl, ⟨x51.1, x51.2, b71⟩, ?_, hm, Bw73, (by omega), K_235⟩
                repeat' first | exact trivial | refine ⟨rfl, ?_⟩
            ·
              refine sdz_leaf ?_
              refine dd_z [] rfl rfl rfl (ev_alloc (cs := kb k0) zv_26 rfl) ⟨fun _ => tk0, trivial⟩ ?_
              rintro _ w74 ⟨b74, rfl, hbw74, Bw74, Gw74⟩
              have z236 := Gw74.size
              have lt237 := Bw74.lt
              refine ⟨Kz.ofGr Gw74, ?_⟩
              have hb := bnd hm; clear hm; obtain ⟨x52, hx52, hm⟩ := hb
              refine dd_z [] rfl rfl rfl (ev_call en_58 rfl (law03_of_w 2#8 2 _ hx52 _)) ⟨fun _ => tk0, trivial⟩ ?_
              rintro _ w75 ⟨rfl, Gw75⟩
              have z238 := Gw75.size
              refine ⟨Kz.ofGr Gw75, ?_⟩
              have B239 := (Own.gr (Own.gr (Own.gr (Own.kz Fw6_0 Kw7) Gw66) Gw74) Gw75)
              have hb := bnd hm; clear hm; obtain ⟨x53, hx53, hm⟩ := hb
              refine dd_z [] rfl rfl rfl (ev_call en_48 rfl (cover_Find_w x52 a7 (TSubset.mk 1 6) _ _ _ _ _ hx53 _ (Own.rd B239))) ⟨fun _ => tk0, trivial⟩ ?_
              rintro _ w76 ⟨rfl, Gw76⟩
              have z240 := Gw76.size
              refine ⟨Kz.ofGr Gw76, ?_⟩
              have S241 := (Kp.gr (Kp.gr (Kp.gr (Kp.refl ([]) w66) Gw74) Gw75) Gw76)
              refine dd_hn 0 rfl rfl rfl rfl S241 (fun w hS => vv_move rfl) ?_
              refine dd_hn 0 rfl rfl rfl rfl S241 (fun w hS => vv_extract rfl rfl) ?_
              refine dd_hn 0 rfl rfl rfl rfl S241 (fun w hS => vv_extract rfl rfl) ?_
              have B242 := (Bx.gr (Bx.gr Bw74 Gw75) Gw76)
              refine dd_z [(1, b74)] rfl rfl rfl (ev_stM (cs' := kb x53.1) (vs := kb x53.1) (agg_26).siz rfl rfl rfl rfl rfl B242 rfl rfl) ⟨fun _ => tk0, trivial⟩ ?_
              rintro _ w77 ⟨Bw77, Mw77⟩
              have z243 := Mw77.size
              refine ⟨Kz.ofMd Mw77, ?_⟩
              have S244 := (Kp.md S241 Mw77)
              refine dd_hn 0 rfl rfl rfl rfl S244 (fun w hS => vv_assign rfl) ?_
              refine sd_nil ?_
              have K_245 : Kz [] w7 w77 := (Kz.md (Kz.gr (Kz.gr (Kz.gr (Kz.gr (Kz.refl _ _) Gw66) Gw74) Gw75) Gw76) Mw77)
              refine ⟨rfl, ⟨x53.1, x53.2, b74⟩, ?_, hm, Bw77, (by omega), K_245⟩
              repeat' first | exact trivial | refine ⟨rfl, ?_⟩
        ·
          -- region 6 outright.go:40 DRAWS
          refine sw_drawN [([])] [] (.fork [(0, 10), (2, 10)] (.fork [(1, 0)] (.leaf [(3, 0), (4, 10), (5, 10), (6, 10), (7, 0), (8, 0), (9, 10)]) (.leaf [(7, 0), (3, 0), (4, 10), (5, 10), (6, 10), (8, 0), (9, 10)])) (.leaf [(7, 0), (1, 0), (3, 0), (4, 10), (5, 10), (6, 10), (8, 0), (9, 10)])) (by kernel_rfl) (by kernel_rfl) rfl (by kernel_rfl) ?_
          intro w78 Gw78 zw78
          refine sdz_fork ?_
          have B246 := (Bx.gr (Bx.kz (Bx.md Bw4 Mw5) Kw6) Gw78)
          refine dd_hn 0 rfl rfl rfl rfl (Kp.refl ([]) w78) (fun w hS => vv_loadW agg_26 rfl (Bx.kp B246 hS) rfl) ?_
          refine dd_hn 0 rfl rfl rfl rfl (Kp.refl ([]) w78) (fun w hS => vv_build (cs := TSubset.cs (TSubset.mk 1 6)) bs_47 rfl rfl) ?_
          refine sd_fork ?_ ?_
          ·
            refine sdz_fork ?_
            have hb := bnd hm; clear hm; obtain ⟨x54, hx54, hm⟩ := hb
            refine dd_z [] rfl rfl rfl (ev_call en_58 rfl (law03_of_w 2#8 2 _ hx54 _)) ⟨fun _ => tk0, trivial⟩ ?_
            rintro _ w79 ⟨rfl, Gw79⟩
            have z247 := Gw79.size
            refine ⟨Kz.ofGr Gw79, ?_⟩
            refine sd_fork ?_ ?_
            ·
              refine sdz_leaf ?_
              have hb := bnd hm; clear hm; obtain ⟨x55, hx55, hm⟩ := hb
              refine dd_z [] rfl rfl rfl (ev_call en_46 rfl (cover_SubsetKey_w x3 x54 (TSubset.mk 1 6) _ hx55 _)) ⟨fun _ => tk0, trivial⟩ ?_
              rintro _ w80 ⟨rfl, Gw80⟩
              have z248 := Gw80.size
              refine ⟨Kz.ofGr Gw80, ?_⟩
              have S249 := (Kp.gr (Kp.gr (Kp.refl ([]) w78) Gw79) Gw80)
              refine dd_hn 0 rfl rfl rfl rfl S249 (fun w hS => vv_move rfl) ?_
              refine dd_hn 0 rfl rfl rfl rfl S249 (fun w hS => vv_extract rfl rfl) ?_
              refine dd_hn 0 rfl rfl rfl rfl S249 (fun w hS => vv_extract rfl rfl) ?_
              refine dd_z [] rfl rfl rfl (ev_alloc (cs := kb k0) zv_26 rfl) ⟨fun _ => tk0, trivial⟩ ?_
              rintro _ w81 ⟨b81, rfl, hbw81, Bw81, Gw81⟩
              have z250 := Gw81.size
              have lt251 := Bw81.lt
              refine ⟨Kz.ofGr Gw81, ?_⟩
              refine dd_z [(1, b81)] rfl rfl rfl (ev_stM (cs' := kb x55.1) (vs := kb x55.1) (agg_26).siz rfl rfl rfl rfl rfl Bw81 rfl rfl) ⟨fun _ => tk0, trivial⟩ ?_
              rintro _ w82 ⟨Bw82, Mw82⟩
              have z252 := Mw82.size
              refine ⟨Kz.ofMd Mw82, ?_⟩
              have S253 := (Kp.md (Kp.gr S249 Gw81) Mw82)
              refine dd_hn 0 rfl rfl rfl rfl S253 (fun w hS => vv_assign rfl) ?_
              refine sd_nil ?_
              have K_254 : Kz [] w6 w82 := (Kz.md (Kz.gr (Kz.gr (Kz.gr (Kz.gr (Kz.refl _ _) Gw78) Gw79) Gw80) Gw81) Mw82)
              refine ⟨rfl, ⟨x55.1, x55.2, b81⟩, ?_, hm, Bw82, (by omega), K_254⟩
              repeat' first | exact trivial | refine ⟨rfl, ?_⟩
            ·
              refine sdz_leaf ?_
              refine dd_z [] rfl rfl rfl (ev_alloc (cs := kb k0) zv_26 rfl) ⟨fun _ => tk0, trivial⟩ ?_
              rintro _ w83 ⟨b83, rfl, hbw83, Bw83, Gw83⟩
              have z255 := Gw83.size
              have lt256 := Bw83.lt
              refine ⟨Kz.ofGr Gw83, ?_⟩
              have hb := bnd hm; clear hm; obtain ⟨x56, hx56, hm⟩ := hb
              refine dd_z [] rfl rfl rfl (ev_call en_46 rfl (cover_SubsetKey_w x3 x54 (TSubset.mk 1 6) _ hx56 _)) ⟨fun _ => tk0, trivial⟩ ?_
              rintro _ w84 ⟨rfl, Gw84⟩
              have z257 := Gw84.size
              refine ⟨Kz.ofGr Gw84, ?_⟩
              have S258 := (Kp.gr (Kp.gr (Kp.gr (Kp.refl ([]) w78) Gw79) Gw83) Gw84)
              refine dd_hn 0 rfl rfl rfl rfl S258 (fun w hS => vv_move rfl) ?_
              refine dd_hn 0 rfl rfl rfl rfl S258 (fun w hS => vv_extract rfl rfl) ?_
              refine dd_hn 0 rfl rfl rfl rfl S258 (fun w hS => vv_extract rfl rfl) ?_
              have B259 := (Bx.gr Bw83 Gw84)
              refine dd_z [(1, b83)] rfl rfl rfl (ev_stM (cs' := kb x56.1) (vs := kb x56.1) (agg_26).siz rfl rfl rfl rfl rfl B259 rfl rfl) ⟨fun _ => tk0, trivial⟩ ?_
              rintro _ w85 ⟨Bw85, Mw85⟩
              have z260 := Mw85.size
              refine ⟨Kz.ofMd Mw85, ?_⟩
              have S261 := (Kp.md S258 Mw85)
              refine dd_hn 0 rfl rfl rfl rfl S261 (fun w hS => vv_assign rfl) ?_
              refine sd_nil ?_
              have K_262 : Kz [] w6 w85 := (Kz.md (Kz.gr (Kz.gr (Kz.gr (Kz.gr (Kz.refl _ _) Gw78) Gw79) Gw83) Gw84) Mw85)
              refine ⟨rfl, ⟨x56.1, x56.2, b83⟩, ?_, hm, Bw85, (by omega), K_262⟩
              repeat' first | exact trivial | refine ⟨rfl, ?_⟩
          ·
            refine sdz_leaf ?_
            refine dd_z [] rfl rfl rfl (ev_alloc (cs := kb k0) zv_26 rfl) ⟨fun _ => tk0, trivial⟩ ?_
            rintro _ w86 ⟨b86, rfl, hbw86, Bw86, Gw86⟩
            have z263 := Gw86.size
            have lt264 := Bw86.lt
            refine ⟨Kz.ofGr Gw86, ?_⟩
            have hb := bnd hm; clear hm; obtain ⟨x57, hx57, hm⟩ := hb
            refine dd_z [] rfl rfl rfl (ev_call en_58 rfl (law03_of_w 2#8 2 _ hx57 _)) ⟨fun _ => tk0, trivial⟩ ?_
            rintro _ w87 ⟨rfl, Gw87⟩
            have z265 := Gw87.size
            refine ⟨Kz.ofGr Gw87, ?_⟩
            have hb := bnd hm; clear hm; obtain ⟨x58, hx58, hm⟩ := hb
            refine dd_z [] rfl rfl rfl (ev_call en_46 rfl (cover_SubsetKey_w x3 x57 (TSubset.mk 1 6) _ hx58 _)) ⟨fun _ => tk0, trivial⟩ ?_
            rintro _ w88 ⟨rfl, Gw88⟩
            have z266 := Gw88.size
            refine ⟨Kz.ofGr Gw88, ?_⟩
            have S267 := (Kp.gr (Kp.gr (Kp.gr (Kp.refl ([]) w78) Gw86) Gw87) Gw88)
            refine dd_hn 0 rfl rfl rfl rfl S267 (fun w hS => vv_move rfl) ?_
            refine dd_hn 0 rfl rfl rfl rfl S267 (fun w hS => vv_extract rfl rfl) ?_
            refine dd_hn 0 rfl rfl rfl rfl S267 (fun w hS => vv_extract rfl rfl) ?_
            have B268 := (Bx.gr (Bx.gr Bw86 Gw87) Gw88)
            refine dd_z [(1, b86)] rfl rfl rfl (ev_stM (cs' := kb x58.1) (vs := kb x58.1) (agg_26).siz rfl rfl rfl rfl rfl B268 rfl rfl) ⟨fun _ => tk0, trivial⟩ ?_
            rintro _ w89 ⟨Bw89, Mw89⟩
            have z269 := Mw89.size
            refine ⟨Kz.ofMd Mw89, ?_⟩
            have S270 := (Kp.md S267 Mw89)
            refine dd_hn 0 rfl rfl rfl rfl S270 (fun w hS => vv_assign rfl) ?_
            refine sd_nil ?_
            have K_271 : Kz [] w6 w89 := (Kz.md (Kz.gr (Kz.gr (Kz.gr (Kz.gr (Kz.refl _ _) Gw78) Gw86) Gw87) Gw88) Mw89)
            refine ⟨rfl, ⟨x58.1, x58.2, b86⟩, ?_, hm, Bw89, (by omega), K_271⟩
            repeat' first | exact trivial | refine ⟨rfl, ?_⟩
      ·
        -- region 5 outright.go:39 DRAWS
        refine sw_drawN [([])] [] (.fork [(0, 10)] (.fork [(1, 0)] (.leaf [(2, 0), (3, 10), (4, 10), (5, 10), (6, 0), (7, 0), (8, 10)]) (.leaf [(6, 0), (2, 0), (3, 10), (4, 10), (5, 10), (7, 0), (8, 10)])) (.leaf [(6, 0), (1, 0), (2, 0), (3, 10), (4, 10), (5, 10), (7, 0), (8, 10)])) (by kernel_rfl) (by kernel_rfl) rfl (by kernel_rfl) ?_
        intro w90 Gw90 zw90
        refine sdz_fork ?_
        have B272 := (Bx.gr (Bx.md Bw4 Mw5) Gw90)
        refine dd_hn 0 rfl rfl rfl rfl (Kp.refl ([]) w90) (fun w hS => vv_loadW agg_26 rfl (Bx.kp B272 hS) rfl) ?_
        refine sd_fork ?_ ?_
        ·
          refine sdz_fork ?_
          have hb := bnd hm; clear hm; obtain ⟨x59, hx59, hm⟩ := hb
          refine dd_z [] rfl rfl rfl (ev_call en_58 rfl (law03_of_w 2#8 2 _ hx59 _)) ⟨fun _ => tk0, trivial⟩ ?_
          rintro _ w91 ⟨rfl, Gw91⟩
          have z273 := Gw91.size
          refine ⟨Kz.ofGr Gw91, ?_⟩
          refine sd_fork ?_ ?_
          ·
            refine sdz_leaf ?_
            have hb := bnd hm; clear hm; obtain ⟨x60, hx60, hm⟩ := hb
            refine dd_z [] rfl rfl rfl (ev_call en_40 rfl (cover_Secret_w x3 x59 0 _ hx60 _)) ⟨fun _ => tk0, trivial⟩ ?_
            rintro _ w92 ⟨u92_r0_1, z92_r0_1, g92_r0_1, rfl, O92_r0_1, f92_r0_1, Gw92⟩
            have z274 := Gw92.size
            have lt275 := O92_r0_1.lth
            refine ⟨Kz.ofGr Gw92, ?_⟩
            have S276 := (Kp.gr (Kp.gr (Kp.refl ([]) w90) Gw91) Gw92)
            refine dd_hn 0 rfl rfl rfl rfl S276 (fun w hS => vv_move rfl) ?_
            refine dd_hn 0 rfl rfl rfl rfl S276 (fun w hS => vv_extract rfl rfl) ?_
            refine dd_hn 0 rfl rfl rfl rfl S276 (fun w hS => vv_extract rfl rfl) ?_
            refine dd_z [] rfl rfl rfl (ev_alloc (cs := TSecret.cs (TSecret.mk 0 [] (TPoint.mk 0#64 0#64)) (.slice none 0 0)) zv_74 rfl) ⟨fun _ => tk0, trivial⟩ ?_
            rintro _ w93 ⟨b93, rfl, hbw93, Bw93, Gw93⟩
            have z277 := Gw93.size
            have lt278 := Bw93.lt
            refine ⟨Kz.ofGr Gw93, ?_⟩
            have B279 := (Own.gr O92_r0_1 Gw93)
            refine dd_z [(1, b93)] rfl rfl rfl (ev_stM (cs' := TSecret.cs x60.1 u92_r0_1) (vs := TSecret.cs x60.1 u92_r0_1) (agg_74).siz rfl rfl rfl rfl (TSecret.cs_ones _ _ (Own.oneB B279)) Bw93 rfl rfl) ⟨fun _ => tk0, trivial⟩ ?_
            rintro _ w94 ⟨Bw94, Mw94⟩
            have z280 := Mw94.size
            refine ⟨Kz.ofMd Mw94, ?_⟩
            have S281 := (Kp.md (Kp.gr S276 Gw93) Mw94)
            refine dd_hn 0 rfl rfl rfl rfl S281 (fun w hS => vv_assign rfl) ?_
            refine sd_nil ?_
            have K_282 : Kz [] w5 w94 := (Kz.md (Kz.gr (Kz.gr (Kz.gr (Kz.gr (Kz.refl _ _) Gw90) Gw91) Gw92) Gw93) Mw94)
            have B283 := (Own.md B279 Mw94 (tk1 ((pv_lt (A := (fun x => x ≠ b93)) lt275) : z92_r0_1 = 0 ∨ g92_r0_1 ≠ b93)))
            refine ⟨rfl, ⟨x60.1, x60.2, b93, u92_r0_1, z92_r0_1, g92_r0_1⟩, ?_, hm, B283, ⟨(pv_0 (A := (fun x => w5.heap.size ≤ x)) f92_r0_1)⟩, Bw94, (by omega), ⟨(pv_lt (A := (fun x => x ≠ b93)) lt275)⟩, K_282⟩
            repeat' first | exact trivial | refine ⟨rfl, ?_⟩
          ·
            refine sdz_leaf ?_
            refine dd_z [] rfl rfl rfl (ev_alloc (cs := TSecret.cs (TSecret.mk 0 [] (TPoint.mk 0#64 0#64)) (.slice none 0 0)) zv_74 rfl) ⟨fun _ => tk0, trivial⟩ ?_
            rintro _ w95 ⟨b95, rfl, hbw95, Bw95, Gw95⟩
            have z284 := Gw95.size
            have lt285 := Bw95.lt
            refine ⟨Kz.ofGr Gw95, ?_⟩
            have hb := bnd hm; clear hm; obtain ⟨x61, hx61, hm⟩ := hb
            refine dd_z [] rfl rfl rfl (ev_call en_40 rfl (cover_Secret_w x3 x59 0 _ hx61 _)) ⟨fun _ => tk0, trivial⟩ ?_
            rintro _ w96 ⟨u96_r0_1, z96_r0_1, g96_r0_1, rfl, O96_r0_1, f96_r0_1, Gw96⟩
            have z286 := Gw96.size
            have lt287 := O96_r0_1.lth
            refine ⟨Kz.ofGr Gw96, ?_⟩
            have S288 := (Kp.gr (Kp.gr (Kp.gr (Kp.refl ([]) w90) Gw91) Gw95) Gw96)
            refine dd_hn 0 rfl rfl rfl rfl S288 (fun w hS => vv_move rfl) ?_
            refine dd_hn 0 rfl rfl rfl rfl S288 (fun w hS => vv_extract rfl rfl) ?_
            refine dd_hn 0 rfl rfl rfl rfl S288 (fun w hS => vv_extract rfl rfl) ?_
            have B289 := (Bx.gr Bw95 Gw96)
            refine dd_z [(1, b95)] rfl rfl rfl (ev_stM (cs' := TSecret.cs x61.1 u96_r0_1) (vs := TSecret.cs x61.1 u96_r0_1) (agg_74).siz rfl rfl rfl rfl (TSecret.cs_ones _ _ (Own.oneB O96_r0_1)) B289 rfl rfl) ⟨fun _ => tk0, trivial⟩ ?_
            rintro _ w97 ⟨Bw97, Mw97⟩
            have z290 := Mw97.size
            refine ⟨Kz.ofMd Mw97, ?_⟩
            have S291 := (Kp.md S288 Mw97)
            refine dd_hn 0 rfl rfl rfl rfl S291 (fun w hS => vv_assign rfl) ?_
            refine sd_nil ?_
            have K_292 : Kz [] w5 w97 := (Kz.md (Kz.gr (Kz.gr (Kz.gr (Kz.gr (Kz.refl _ _) Gw90) Gw91) Gw95) Gw96) Mw97)
            have B293 := (Own.md O96_r0_1 Mw97 (tk1 ((pv_0 (A := (fun x => x ≠ b95)) f96_r0_1) : z96_r0_1 = 0 ∨ g96_r0_1 ≠ b95)))
            refine ⟨rfl, ⟨x61.1, x61.2, b95, u96_r0_1, z96_r0_1, g96_r0_1⟩, ?_, hm, B293, ⟨(pv_0 (A := (fun x => w5.heap.size ≤ x)) f96_r0_1)⟩, Bw97, (by omega), ⟨(pv_0 (A := (fun x => x ≠ b95)) f96_r0_1)⟩, K_292⟩
            repeat' first | exact trivial | refine ⟨rfl, ?_⟩
        ·
          refine sdz_leaf ?_
          refine dd_z [] rfl rfl rfl (ev_alloc (cs := TSecret.cs (TSecret.mk 0 [] (TPoint.mk 0#64 0#64)) (.slice none 0 0)) zv_74 rfl) ⟨fun _ => tk0, trivial⟩ ?_
          rintro _ w98 ⟨b98, rfl, hbw98, Bw98, Gw98⟩
          have z294 := Gw98.size
          have lt295 := Bw98.lt
          refine ⟨Kz.ofGr Gw98, ?_⟩
          have hb := bnd hm; clear hm; obtain ⟨x62, hx62, hm⟩ := hb
          refine dd_z [] rfl rfl rfl (ev_call en_58 rfl (law03_of_w 2#8 2 _ hx62 _)) ⟨fun _ => tk0, trivial⟩ ?_
          rintro _ w99 ⟨rfl, Gw99⟩
          have z296 := Gw99.size
          refine ⟨Kz.ofGr Gw99, ?_⟩
          have hb := bnd hm; clear hm; obtain ⟨x63, hx63, hm⟩ := hb
          refine dd_z [] rfl rfl rfl (ev_call en_40 rfl (cover_Secret_w x3 x62 0 _ hx63 _)) ⟨fun _ => tk0, trivial⟩ ?_
          rintro _ w100 ⟨u100_r0_1, z100_r0_1, g100_r0_1, rfl, O100_r0_1, f100_r0_1, Gw100⟩
          have z297 := Gw100.size
          have lt298 := O100_r0_1.lth
          refine ⟨Kz.ofGr Gw100, ?_⟩
          have S299 := (Kp.gr (Kp.gr (Kp.gr (Kp.refl ([]) w90) Gw98) Gw99) Gw100)
          refine dd_hn 0 rfl rfl rfl rfl S299 (fun w hS => vv_move rfl) ?_
          refine dd_hn 0 rfl rfl rfl rfl S299 (fun w hS => vv_extract rfl rfl) ?_
          refine dd_hn 0 rfl rfl rfl rfl S299 (fun w hS => vv_extract rfl rfl) ?_
          have B300 := (Bx.gr (Bx.gr Bw98 Gw99) Gw100)
          refine dd_z [(1, b98)] rfl rfl rfl (ev_stM (cs' := TSecret.cs x63.1 u100_r0_1) (vs := TSecret.cs x63.1 u100_r0_1) (agg_74).siz rfl rfl rfl rfl (TSecret.cs_ones _ _ (Own.oneB O100_r0_1)) B300 rfl rfl) ⟨fun _ => tk0, trivial⟩ ?_
          rintro _ w101 ⟨Bw101, Mw101⟩
          have z301 := Mw101.size
          refine ⟨Kz.ofMd Mw101, ?_⟩
          have S302 := (Kp.md S299 Mw101)
          refine dd_hn 0 rfl rfl rfl rfl S302 (fun w hS => vv_assign rfl) ?_
          refine sd_nil ?_
          have K_303 : Kz [] w5 w101 := (Kz.md (Kz.gr (Kz.gr (Kz.gr (Kz.gr (Kz.refl _ _) Gw90) Gw98) Gw99) Gw100) Mw101)
          have B304 := (Own.md O100_r0_1 Mw101 (tk1 ((pv_0 (A := (fun x => x ≠ b98)) f100_r0_1) : z100_r0_1 = 0 ∨ g100_r0_1 ≠ b98)))
          refine ⟨rfl, ⟨x63.1, x63.2, b98, u100_r0_1, z100_r0_1, g100_r0_1⟩, ?_, hm, B304, ⟨(pv_0 (A := (fun x => w5.heap.size ≤ x)) f100_r0_1)⟩, Bw101, (by omega), ⟨(pv_0 (A := (fun x => x ≠ b98)) f100_r0_1)⟩, K_303⟩
          repeat' first | exact trivial | refine ⟨rfl, ?_⟩
  ·
    -- region 1 outright.go:34
    refine sw_region [(0, 0), (1, 0), (2, 0), (3, 0), (4, 0), (5, 0), (6, 0), (7, 0), (8, 0), (9, 0), (10, 0), (11, 0), (12, 0), (13, 0), (14, 0), (15, 0), (16, 0), (17, 0), (18, 0)] rfl rfl rfl ?_
    have hb := bnd hm; clear hm; obtain ⟨x64, hx64, hm⟩ := hb
    refine sd_ev rfl rfl rfl (ev_call en_58 rfl (law03_of_w 1#8 3 _ hx64 _)) ?_
    rintro _ w102 ⟨rfl, Gw102⟩
    have z305 := Gw102.size
    refine sd_ev rfl rfl rfl (ev_litT [2, 3] ic bsl_61_2 rfl rfl (ws_of rfl) rfl rfl rfl) ?_
    rintro vw103 w103 ⟨gw103, hbw103, Ow103, Gw103⟩
    have z306 := Gw103.size
    have lt307 := Ow103.lth
    refine sd_ev rfl rfl rfl (ev_litT [3, 0, 4, 0] ic bsl_61_4 rfl rfl (ws_of rfl) rfl rfl rfl) ?_
    rintro vw104 w104 ⟨gw104, hbw104, Ow104, Gw104⟩
    have z308 := Gw104.size
    have lt309 := Ow104.lth
    have B310 := (Own.gr Ow103 Gw104)
    have hb := bnd hm; clear hm; obtain ⟨x65, hx65, hm⟩ := hb
    refine sd_ev rfl rfl rfl (ev_call en_63 rfl (law03_covers_w x64 [2, 3] [3, 0, 4, 0] _ _ _ _ _ _ _ _ _ hx65 _ (Own.rd B310) (Own.rd Ow104))) ?_
    rintro _ w105 ⟨rfl, Gw105⟩
    have z311 := Gw105.size
    refine sd_vv rfl rfl rfl (vv_not rfl) ?_
    refine sd_split rfl rfl rfl (vv_move rfl) (fun c16 => ?_) (fun c16 => ?_)
    ·
      replace hm := cnd_t c16 hm
      refine sd_skip rfl rfl rfl ?_
      refine sd_skip rfl rfl rfl ?_
      refine sd_skip rfl rfl rfl ?_
      refine sd_skip rfl rfl rfl ?_
      refine sd_skip rfl rfl rfl ?_
      refine sd_vv rfl rfl rfl (vv_pickT rfl rfl) ?_
      refine sd_vv rfl rfl rfl (vv_move rfl) ?_
      refine sd_skip rfl rfl rfl ?_
      refine sd_skip rfl rfl rfl ?_
      refine sd_skip rfl rfl rfl ?_
      refine sd_skip rfl rfl rfl ?_
      refine sd_skip rfl rfl rfl ?_
      refine sd_vv rfl rfl rfl (vv_pickT rfl rfl) ?_
      refine sd_nil ?_
      have K_312 : Kz [] w w105 := (Kz.gr (Kz.gr (Kz.gr (Kz.gr (Kz.refl _ _) Gw102) Gw103) Gw104) Gw105)
      refine ⟨rfl, true, ?_, hm, K_312⟩
      repeat' first | exact trivial | refine ⟨rfl, ?_⟩
    ·
      replace hm := cnd_f c16 hm
      have hb := bnd hm; clear hm; obtain ⟨x66, hx66, hm⟩ := hb
      refine sd_ev rfl rfl rfl (ev_call en_58 rfl (law03_of_w 2#8 3 _ hx66 _)) ?_
      rintro _ w106 ⟨rfl, Gw106⟩
      have z313 := Gw106.size
      refine sd_ev rfl rfl rfl (ev_litT [0, 5] ic bsl_61_2 rfl rfl (ws_of rfl) rfl rfl rfl) ?_
      rintro vw107 w107 ⟨gw107, hbw107, Ow107, Gw107⟩
      have z314 := Gw107.size
      have lt315 := Ow107.lth
      refine sd_ev rfl rfl rfl (ev_litT [2, 8, 3, 13] ic bsl_61_4 rfl rfl (ws_of rfl) rfl rfl rfl) ?_
      rintro vw108 w108 ⟨gw108, hbw108, Ow108, Gw108⟩
      have z316 := Gw108.size
      have lt317 := Ow108.lth
      have B318 := (Own.gr Ow107 Gw108)
      have hb := bnd hm; clear hm; obtain ⟨x67, hx67, hm⟩ := hb
      refine sd_ev rfl rfl rfl (ev_call en_63 rfl (law03_covers_w x66 [0, 5] [2, 8, 3, 13] _ _ _ _ _ _ _ _ _ hx67 _ (Own.rd B318) (Own.rd Ow108))) ?_
      rintro _ w109 ⟨rfl, Gw109⟩
      have z319 := Gw109.size
      refine sd_vv rfl rfl rfl (vv_not rfl) ?_
      refine sd_vv rfl rfl rfl (vv_pickF rfl rfl) ?_
      refine sd_split rfl rfl rfl (vv_move rfl) (fun c17 => ?_) (fun c17 => ?_)
      ·
        replace hm := cnd_t c17 hm
        refine sd_skip rfl rfl rfl ?_
        refine sd_skip rfl rfl rfl ?_
        refine sd_skip rfl rfl rfl ?_
        refine sd_skip rfl rfl rfl ?_
        refine sd_skip rfl rfl rfl ?_
        refine sd_vv rfl rfl rfl (vv_pickT rfl rfl) ?_
        refine sd_nil ?_
        have K_320 : Kz [] w w109 := (Kz.gr (Kz.gr (Kz.gr (Kz.gr (Kz.gr (Kz.gr (Kz.gr (Kz.gr (Kz.refl _ _) Gw102) Gw103) Gw104) Gw105) Gw106) Gw107) Gw108) Gw109)
        refine ⟨rfl, true, ?_, hm, K_320⟩
        repeat' first | exact trivial | refine ⟨rfl, ?_⟩
      ·
        replace hm := cnd_f c17 hm
        have hb := bnd hm; clear hm; obtain ⟨x68, hx68, hm⟩ := hb
        refine sd_ev rfl rfl rfl (ev_call en_58 rfl (law03_of_w 3#8 3 _ hx68 _)) ?_
        rintro _ w110 ⟨rfl, Gw110⟩
        have z321 := Gw110.size
        refine sd_ev rfl rfl rfl (ev_litT [0, 5] ic bsl_61_2 rfl rfl (ws_of rfl) rfl rfl rfl) ?_
        rintro vw111 w111 ⟨gw111, hbw111, Ow111, Gw111⟩
        have z322 := Gw111.size
        have lt323 := Ow111.lth
        refine sd_ev rfl rfl rfl (ev_litT [2, 4, 3, 6, 4, 8, 6, 13] ic bsl_61_8 rfl rfl (ws_of rfl) rfl rfl rfl) ?_
        rintro vw112 w112 ⟨gw112, hbw112, Ow112, Gw112⟩
        have z324 := Gw112.size
        have lt325 := Ow112.lth
        have B326 := (Own.gr Ow111 Gw112)
        have hb := bnd hm; clear hm; obtain ⟨x69, hx69, hm⟩ := hb
        refine sd_ev rfl rfl rfl (ev_call en_63 rfl (law03_covers_w x68 [0, 5] [2, 4, 3, 6, 4, 8, 6, 13] _ _ _ _ _ _ _ _ _ hx69 _ (Own.rd B326) (Own.rd Ow112))) ?_
        rintro _ w113 ⟨rfl, Gw113⟩
        have z327 := Gw113.size
        refine sd_vv rfl rfl rfl (vv_not rfl) ?_
        refine sd_vv rfl rfl rfl (vv_pickF rfl rfl) ?_
        refine sd_nil ?_
        have K_328 : Kz [] w w113 := (Kz.gr (Kz.gr (Kz.gr (Kz.gr (Kz.gr (Kz.gr (Kz.gr (Kz.gr (Kz.gr (Kz.gr (Kz.gr (Kz.gr (Kz.refl _ _) Gw102) Gw103) Gw104) Gw105) Gw106) Gw107) Gw108) Gw109) Gw110) Gw111) Gw112) Gw113)
        refine ⟨rfl, (!x69), ?_, hm, K_328⟩
        repeat' first | exact trivial | refine ⟨rfl, ?_⟩

set_option maxHeartbeats 2000000 in
theorem law03_member_w (p0 : TScheme) (p1 : List TSubset) (p2 : Int) (vp1 : Value) (zp1 gp1 op1 : Nat) (r : Bool × Bool) (hm : law03_member p0 p1 p2 = some r) (w : World) (hp1 : Rd w zp1 gp1 op1 2 vp1 (p1.map TSubset.cs))  :
    Calls Try.prog 61 [.agg (TScheme.cs p0).toArray, vp1, .int .i64 p2].toArray w fun e w' => ∃ v, e = .returned v ∧ (v = .tuple [.bool r.1, .bool r.2].toArray ∧ Gr w w') := by
  have lt1 := hp1.lth
  unfold law03_member at hm
  refine calls_of_sw (R := fun v w' => v = .tuple [.bool r.1, .bool r.2].toArray ∧ Gr w w') 46 Try.func61 rfl rfl rfl ?_
  refine sw_seq ?_
  -- region 0 outright.go:173
  refine sw_region [(0, 0), (1, 0), (2, 0)] rfl rfl rfl ?_
  refine sd_ev rfl rfl rfl (ev_box (cs := TScheme.cs p0) rfl rfl) ?_
  rintro _ w1 ⟨b1, rfl, hbw1, Bw1, Gw1⟩
  have z2 := Gw1.size
  have lt3 := Bw1.lt
  refine sd_vv rfl rfl rfl (vv_assign rfl) ?_
  refine sd_vv rfl rfl rfl (vv_assign rfl) ?_
  refine sd_done ?_
  refine sw_seq ?_
  -- region 1 outright.go:174
  refine sw_region [(0, 0)] rfl rfl rfl ?_
  refine sd_vv rfl rfl rfl (vv_assign rfl) ?_
  refine sd_done ?_
  refine sw_seq ?_
  refine sw_seq ?_
  -- region 2 outright.go:175
  refine sw_region [(0, 0)] rfl rfl rfl ?_
  refine sd_vv rfl rfl rfl (vv_assign rfl) ?_
  refine sd_done ?_
  refine sw_block ?_
  have X4 : Gr w w1 := (Gr.trans (Gr.refl w) Gw1)
  have B5 := (Rd.gr hp1 Gw1)
  refine sw_loopD (α := Nat × Bool × Int) [6, 7, 8, 9, 10, 11, 12, 13, 14, 15, 16, 17, 18, 19, 20, 21, 22, 23, 24, 25, 26, 27, 28, 29, 30, 31, 32, 33, 34, 35, 36, 37, 38, 39, 40, 41, 42, 43, 44] (fun ⟨n1, a3, a4⟩ => [(6, .bool false), (7, .bool false), (8, .bool a3), (9, .int .i64 a4)]) (fun ⟨n1, a3, a4⟩ wr => (fixN (law03_member_L1 p0 p1 p2) n1 (a3, a4) = some r) ∧ Kz [] w1 wr) (fun ⟨n1, a3, a4⟩ => n1) ⟨FUEL, false, 0⟩ ?_ ?_ ?_
  · repeat' first | exact trivial | refine ⟨rfl, ?_⟩
  · exact ⟨hm, Kz.refl _ _⟩
  · clear hm; rintro ⟨n1, a3, a4⟩ w2 ⟨hm, Kw2⟩
    have z6 := Kw2.size
    have hb := fix_succ hm; clear hm; obtain ⟨n1, rfl, hm⟩ := hb
    generalize hrec1 : fixN (law03_member_L1 p0 p1 p2) n1 = rec1 at hm
    unfold law03_member_L1 at hm
    try dsimp only at hm
    refine sw_seq ?_
    refine sw_seq ?_
    -- region 3 outright.go:175
    refine sw_region [(0, 0), (1, 0), (2, 0), (3, 0)] rfl rfl rfl ?_
    refine sd_vv rfl rfl rfl (vv_move rfl) ?_
    refine sd_vv rfl rfl rfl (vv_move rfl) ?_
    have B7 := (Rd.kz B5 Kw2)
    refine sd_vv rfl rfl rfl (vv_lenT (l := p1) (c := TSubset.cs) Try.underlying48 rfl B7) ?_
    refine sd_vv rfl rfl rfl (vv_lss (a := a4) (b := (p1.length : Int)) rfl rfl) ?_
    refine sd_done ?_
    refine sw_cond rfl (fun c1 => ?_) (fun c1 => ?_)
    ·
      replace hm := ite_t (of_decide_eq_true c1) hm
      refine sw_skip ?_
      refine then_n ?_
      refine sw_seq ?_
      refine sw_block ?_
      refine sw_seq ?_
      -- region 5 outright.go:176 DRAWS
      refine sw_drawN [([])] [] (.leaf [(0, 10), (1, 10), (2, 10), (3, 10), (4, 10), (5, 0), (6, 10), (7, 10), (8, 10), (9, 10), (10, 10)]) (by kernel_rfl) (by kernel_rfl) rfl (by kernel_rfl) ?_
      intro w3 Gw3 zw3
      refine sdz_leaf ?_
      have B8 := (Bx.gr (Bx.kz Bw1 Kw2) Gw3)
      refine dd_hn 0 rfl rfl rfl rfl (Kp.refl ([]) w3) (fun w hS => vv_loadW agg_45 rfl (Bx.kp B8 hS) rfl) ?_
      refine dd_hn 0 rfl rfl rfl rfl (Kp.refl ([]) w3) (fun w hS => vv_move rfl) ?_
      refine dd_hn 0 rfl rfl rfl rfl (Kp.refl ([]) w3) (fun w hS => vv_move rfl) ?_
      have hb := bnd hm; clear hm; obtain ⟨y5, hy5, hm⟩ := hb
      have B9 := (Rd.gr B7 Gw3)
      refine dd_hn 0 rfl rfl rfl rfl (Kp.refl ([]) w3) (fun w hS => vv_ixT (i := a4) Try.underlying48 (agg_47).siz rfl (Rd.kp B9 hS) rfl hy5) ?_
      refine dd_hn 0 rfl rfl rfl rfl (Kp.refl ([]) w3) (fun w hS => vv_elWT agg_47 rfl (Rd.kp B9 hS) hy5 (by first | rfl | omega)) ?_
      have hb := bnd hm; clear hm; obtain ⟨x6, hx6, hm⟩ := hb
      refine dd_z [] rfl rfl rfl (ev_call en_35 rfl (cover_Members_w p0 y5 _ hx6 _)) ⟨fun _ => tk0, trivial⟩ ?_
      rintro _ w4 ⟨u4_r0_s, z4_r0_s, g4_r0_s, rfl, O4_r0_s, f4_r0_s, Gw4⟩
      have z10 := Gw4.size
      have lt11 := O4_r0_s.lth
      refine ⟨Kz.ofGr Gw4, ?_⟩
      have S12 := (Kp.gr (Kp.refl ([]) w3) Gw4)
      refine dd_hn 0 rfl rfl rfl rfl S12 (fun w hS => vv_move rfl) ?_
      refine dd_hn 0 rfl rfl rfl rfl S12 (fun w hS => vv_extract rfl rfl) ?_
      refine dd_hn 0 rfl rfl rfl rfl S12 (fun w hS => vv_extract rfl rfl) ?_
      refine dd_hn 0 rfl rfl rfl rfl S12 (fun w hS => vv_assign rfl) ?_
      refine dd_hn 0 rfl rfl rfl rfl S12 (fun w hS => vv_assign rfl) ?_
      refine sd_done ?_
      refine sw_seq ?_
      refine sw_seq ?_
      -- region 6 outright.go:177
      refine sw_region [(0, 0), (1, 0)] rfl rfl rfl ?_
      refine sd_vv rfl rfl rfl (vv_move rfl) ?_
      refine sd_vv rfl rfl rfl (vv_neq (a := x6.2) (b := 0) rfl rfl) ?_
      refine sd_done ?_
      refine sw_cond rfl (fun c2 => ?_) (fun c2 => ?_)
      ·
        replace hm := ite_t (of_decide_eq_true c2) hm
        refine sw_seq ?_
        -- region 7 outright.go:178
        refine sw_region [(0, 0), (1, 0)] rfl rfl rfl ?_
        refine sd_vv rfl rfl rfl (vv_assign rfl) ?_
        refine sd_vv rfl rfl rfl (vv_assign rfl) ?_
        refine sd_done ?_
        refine sw_ret ?_
        refine then_r ?_
        refine block_r ?_
        refine then_r ?_
        refine then_r ?_
        refine block_r ?_
        refine then_r ?_
        have X13 : Gr w w4 := (Gr.trans (Gr.trans (Gr.kz X4 Kw2) Gw3) Gw4)
        have hr := Option.some.inj hm
        subst hr
        refine ⟨_, _, rfl, res_2 rfl (rv_tmp rfl) (rv_tmp rfl), ?_⟩
        exact ⟨rfl, X13⟩
      ·
        replace hm := ite_f (of_decide_eq_false c2) hm
        refine sw_skip ?_
        refine then_n ?_
        refine sw_seq ?_
        -- region 8 outright.go:180
        refine sw_region [(0, 0)] rfl rfl rfl ?_
        refine sd_vv rfl rfl rfl (vv_assign rfl) ?_
        refine sd_done ?_
        refine sw_block ?_
        have X14 : Gr w w4 := (Gr.trans (Gr.trans (Gr.kz X4 Kw2) Gw3) Gw4)
        have B15 := (Rd.gr B9 Gw4)
        refine sw_loopD (α := Nat × Bool × Int) [8, 12, 30, 31, 32, 33, 34, 35, 36, 37, 38, 39, 40, 41, 42, 43, 44] (fun ⟨n2, a9, a10⟩ => [(8, .bool a9), (12, .int .i64 a10)]) (fun ⟨n2, a9, a10⟩ wr => (fixN (law03_member_L2 p2 a4 rec1 x6) n2 (a9, a10) = some r) ∧ Kz [] w4 wr) (fun ⟨n2, a9, a10⟩ => n2) ⟨FUEL, a3, 0⟩ ?_ ?_ ?_
        · repeat' first | exact trivial | refine ⟨rfl, ?_⟩
        · exact ⟨hm, Kz.refl _ _⟩
        · clear hm; rintro ⟨n2, a9, a10⟩ w5 ⟨hm, Kw5⟩
          have z16 := Kw5.size
          have hb := fix_succ hm; clear hm; obtain ⟨n2, rfl, hm⟩ := hb
          generalize hrec2 : fixN (law03_member_L2 p2 a4 rec1 x6) n2 = rec2 at hm
          unfold law03_member_L2 at hm
          try dsimp only at hm
          refine sw_seq ?_
          refine sw_seq ?_
          -- region 9 outright.go:180
          refine sw_region [(0, 0), (1, 0), (2, 0), (3, 0)] rfl rfl rfl ?_
          refine sd_vv rfl rfl rfl (vv_move rfl) ?_
          refine sd_vv rfl rfl rfl (vv_move rfl) ?_
          have B17 := (Own.kz O4_r0_s Kw5)
          refine sd_vv rfl rfl rfl (vv_lenT (l := x6.1) (c := ic) Try.underlying61 rfl (Own.rd B17)) ?_
          refine sd_vv rfl rfl rfl (vv_lss (a := a10) (b := (x6.1.length : Int)) rfl rfl) ?_
          refine sd_done ?_
          refine sw_cond rfl (fun c3 => ?_) (fun c3 => ?_)
          ·
            replace hm := ite_t (of_decide_eq_true c3) hm
            refine sw_skip ?_
            refine then_n ?_
            refine sw_seq ?_
            refine sw_block ?_
            -- region 11 outright.go:181
            refine sw_region [(0, 0), (1, 0), (2, 0), (3, 0), (4, 0), (5, 0), (6, 0), (7, 0), (8, 0), (9, 0)] rfl rfl rfl ?_
            refine sd_vv rfl rfl rfl (vv_move rfl) ?_
            refine sd_split rfl rfl rfl (vv_move rfl) (fun c4 => ?_) (fun c4 => ?_)
            ·
              replace hm := cnd_t c4 hm
              refine sd_skip rfl rfl rfl ?_
              refine sd_skip rfl rfl rfl ?_
              refine sd_skip rfl rfl rfl ?_
              refine sd_skip rfl rfl rfl ?_
              refine sd_skip rfl rfl rfl ?_
              refine sd_skip rfl rfl rfl ?_
              refine sd_vv rfl rfl rfl (vv_pickT rfl rfl) ?_
              refine sd_vv rfl rfl rfl (vv_assign rfl) ?_
              refine sd_nil ?_
              refine block_n ?_
              refine then_n ?_
              -- region 10 outright.go:180
              refine sw_region [(0, 0), (1, 0), (2, 0)] rfl rfl rfl ?_
              refine sd_vv rfl rfl rfl (vv_move rfl) ?_
              refine sd_vv rfl rfl rfl (vv_add (k := .i64) (a := a10) (b := 1) rfl rfl) ?_
              refine sd_vv rfl rfl rfl (vv_assign rfl) ?_
              refine sd_nil ?_
              have K_18 : Kz [] w4 w5 := Kw5
              subst hrec2
              refine ⟨rfl, ⟨n2, true, w64 (a10 + 1)⟩, ?_, ⟨hm, K_18⟩, Nat.lt_succ_self _⟩
              repeat' first | exact trivial | refine ⟨rfl, ?_⟩
            ·
              replace hm := cnd_f c4 hm
              refine sd_vv rfl rfl rfl (vv_move rfl) ?_
              refine sd_vv rfl rfl rfl (vv_move rfl) ?_
              have hb := bnd hm; clear hm; obtain ⟨y11, hy11, hm⟩ := hb
              refine sd_vv rfl rfl rfl (vv_ixT (i := a10) Try.underlying61 (one_3).siz rfl (Own.rd B17) rfl hy11) ?_
              refine sd_vv rfl rfl rfl (vv_el1T (q := 0) (u := .int .i64 y11) one_3 rfl (Own.rd B17) hy11 (by first | rfl | omega) rfl) ?_
              refine sd_vv rfl rfl rfl (vv_move rfl) ?_
              refine sd_vv rfl rfl rfl (vv_eql (a := y11) (b := p2) rfl rfl) ?_
              refine sd_vv rfl rfl rfl (vv_pickF rfl rfl) ?_
              refine sd_vv rfl rfl rfl (vv_assign rfl) ?_
              refine sd_nil ?_
              refine block_n ?_
              refine then_n ?_
              -- region 10 outright.go:180
              refine sw_region [(0, 0), (1, 0), (2, 0)] rfl rfl rfl ?_
              refine sd_vv rfl rfl rfl (vv_move rfl) ?_
              refine sd_vv rfl rfl rfl (vv_add (k := .i64) (a := a10) (b := 1) rfl rfl) ?_
              refine sd_vv rfl rfl rfl (vv_assign rfl) ?_
              refine sd_nil ?_
              have K_19 : Kz [] w4 w5 := Kw5
              subst hrec2
              refine ⟨rfl, ⟨n2, decide (y11 = p2), w64 (a10 + 1)⟩, ?_, ⟨hm, K_19⟩, Nat.lt_succ_self _⟩
              repeat' first | exact trivial | refine ⟨rfl, ?_⟩
          ·
            replace hm := ite_f (of_decide_eq_false c3) hm
            refine sw_exit ?_
            refine then_x ?_
            refine then_x ?_
            refine block_x ?_
            refine block_n ?_
            refine then_n ?_
            -- region 4 outright.go:175
            refine sw_region [(0, 0), (1, 0), (2, 0)] rfl rfl rfl ?_
            refine sd_vv rfl rfl rfl (vv_move rfl) ?_
            refine sd_vv rfl rfl rfl (vv_add (k := .i64) (a := a4) (b := 1) rfl rfl) ?_
            refine sd_vv rfl rfl rfl (vv_assign rfl) ?_
            refine sd_nil ?_
            have K_20 : Kz [] w1 w5 := (Kz.kz (Kz.gr (Kz.gr Kw2 Gw3) Gw4) Kw5)
            subst hrec1
            refine ⟨rfl, ⟨n1, a9, w64 (a4 + 1)⟩, ?_, ⟨hm, K_20⟩, Nat.lt_succ_self _⟩
            repeat' first | exact trivial | refine ⟨rfl, ?_⟩
    ·
      replace hm := ite_f (of_decide_eq_false c1) hm
      refine sw_exit ?_
      refine then_x ?_
      refine then_x ?_
      refine block_x ?_
      refine then_n ?_
      refine sw_seq ?_
      -- region 12 outright.go:184
      refine sw_region [(0, 0), (1, 0), (2, 0)] rfl rfl rfl ?_
      refine sd_vv rfl rfl rfl (vv_move rfl) ?_
      refine sd_vv rfl rfl rfl (vv_assign rfl) ?_
      refine sd_vv rfl rfl rfl (vv_assign rfl) ?_
      refine sd_done ?_
      refine sw_ret ?_
      have X21 : Gr w w2 := (Gr.kz X4 Kw2)
      have hr := Option.some.inj hm
      subst hr
      refine ⟨_, _, rfl, res_2 rfl (rv_tmp rfl) (rv_tmp rfl), ?_⟩
      exact ⟨rfl, X21⟩
end Go.Proofs.Ytecempahccgijaa.Mx
